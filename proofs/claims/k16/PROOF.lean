import PyProof.Rows.All
import Wide.All
import OpenK.AllK
import Wide.FinOn
import PySem.PyData
import HandS.ForMost
import HandS.TupAny
import HandS.TupLe
import HandS.TupLen
import HandS.TupMul
import HandS.Strs
import HandS.Deep
import HandS.IsInst
import HandS.SortInts
import HandS.DictComp
import HandS.DictTup
import HandS.Conv
import HandS.More
import HandS.Small
import HandS.Lambda
import HandS.HeadWalk
import KE.GoesMore
import HandS.Zip
import KE.SortData
import KE.SortUse
import KE.DataFind
import KE.DataMinMax
import HandS.SetFor
import HandS.Style
import HandS.Head0
import HandS.Head1
import HandS.Head2
import HandS.HeadEnd
import HandS.HeadHook1
import HandS.HeadHook2
import HandS.ForExc
import HandS.ExcField
import HandS.ExcIs
import HandS.CallSlots
import KE.KExcIs
import HandS.FStr
import HandS.ExcInit
import KE.KDflt
import HandS.Iter
import PyProof.CompFree
import HandS.Text
import HandS.Codes
import KE.IntTextLaws
import PyProof.WalksMore
import PyProof.CollectWalk
import HandS.HotCalls
import HandS.Finally
import HandS.ExcCtx
import HandS.SuiteRaise
import KE.KDictCopyH
import KE.KDictOf
import KE.KEqNest
import KE.KDictPairs
import KE.KIndexOf
import PySem.Challenge.RW_onceonly_k16_whole_more_attempts_need_mo
set_option Elab.async false
section S_DR0
namespace L2
end L2
namespace Dr
end Dr
namespace Hx
end Hx
set_option Elab.async false
set_option linter.all false
set_option maxRecDepth 100000
/-! DR0: what the head's run looks at (moved here from the layer, so that the run can stand ahead of it). -/
namespace Hx
open PySem PySem.Spec PyProof.Rows L2 Dr
/-- no table of code objects -/
def notTab (o : Obj) : Bool := match o.cls, o.data with
  | .none, .fields _ => false
  | _, _ => true
end Hx
namespace Hx
open PySem PySem.Spec PyProof.Rows L2 Dr
/-- the last step of growing needs no care for what is told twice -/
def asF (g : Addr → Option Obj) : Nat → List Addr
  | 0 => He.asD g 0
  | n + 1 => He.asD g n ++ (He.asD g n).flatMap fun a => match g a with
    | some o => He.refsD o
    | none => []
end Hx
namespace Hx
open PySem PySem.Spec PyProof.Rows L2 Dr
def frT (n : Nat) (g : Addr → Option Obj) : PySem.W.Frag := (He.frG g (PySem.cStatics :: asF g n)).filter fun p => notTab p.2
end Hx
namespace Hx
open PySem PySem.Spec PyProof.Rows L2 Dr
/-- the code object of the function at f -/
def codeF (K : PySem.W.Frag) (f : Addr) : Option Addr := match K.lookup f with
  | some ⟨_, _, .func fd, _⟩ => (match fd.code with
    | .ref c => some c
    | _ => none)
  | _ => none
end Hx
namespace Hx
open PySem PySem.Spec PyProof.Rows L2 Dr
def cAd (K : PySem.W.Frag) (x : Str) : Addr := (codeF K (He.ga K x)).getD 0
end Hx
namespace Hx
open PySem PySem.Spec PyProof.Rows L2 Dr
def tAd (K : PySem.W.Frag) (x : Str) : Addr := match K.lookup (cAd K x) with
  | some ⟨_, _, .fields vs, _⟩ => (match (vs[11]? : Option Value) with
    | some (Value.ref P) => P
    | _ => 0)
  | _ => 0
end Hx
namespace Hx
open PySem PySem.Spec PyProof.Rows L2 Dr
def isStrV : Value → Bool
  | .str _ _ => true
  | _ => false
end Hx
namespace Hx
open PySem PySem.Spec PyProof.Rows L2 Dr
def isIntV : Value → Bool
  | .int _ _ => true
  | _ => false
end Hx
namespace Hx
open PySem PySem.Spec PyProof.Rows L2 Dr
def isBoolV : Value → Bool
  | .bool _ => true
  | _ => false
end Hx
namespace Hx
open PySem PySem.Spec PyProof.Rows L2 Dr
def isTabO : Obj → Bool
  | ⟨.none, none, .fields vs, sl⟩ => vs.isEmpty && sl.isEmpty
  | _ => false
end Hx
namespace Hx
open PySem PySem.Spec PyProof.Rows L2 Dr
def codeB (vs : Array Value) (P : Addr) : Bool := decide (vs[11]? = some (.ref P)) && (isStrV (vs.getD 18 .none) && (isIntV (vs.getD 7 .none) && (isBoolV (vs.getD 9 .none) && isIntV (vs.getD 10 .none))))
end Hx
namespace Hx
open PySem PySem.Spec PyProof.Rows L2 Dr
/-- the function x of the module has a code object with an empty table -/
def tabB (g : Addr → Option Obj) (K : PySem.W.Frag) (x : Str) : Bool := decide (codeF K (He.ga K x) = some (cAd K x)) && ((match K.lookup (cAd K x) with
  | some ⟨.type "code", _, .fields vs, _⟩ => codeB vs (tAd K x)
  | _ => false) && (decide (cAd K x ≠ tAd K x) && ((K.lookup (tAd K x)).isNone && (match g (tAd K x) with
  | some o => isTabO o
  | none => false))))
end Hx
namespace Hx
open PySem PySem.Spec PyProof.Rows L2 Dr
abbrev AlX : Type := He.AlD × Bool
end Hx
namespace Hx
open PySem PySem.Spec PyProof.Rows L2 Dr
def obsX (n : Nat) (fa : List He.Fa) (fn : List He.DefD) (fx : List (PySem.W.Frag → Bool)) (xs : List Str) (g : Addr → Option Obj) : AlX := (He.obsD fa fn (frT n g), (fx.all fun f => f (frT n g)) && xs.all fun x => tabB g (frT n g) x)
end Hx
namespace Dr
open PySem PySem.Spec PyProof.Rows L2
def oexB (K : PySem.W.Frag) (C : Addr) : Bool := (match K.lookup C with
  | some ⟨.type "type", _, .cls cd, sl⟩ => (match cd.mro, sl.toList with
    | .ref C' :: bm, [_, _, _, _, some (.builtin n), _] => C' == C && n == "ValueError.__new__" && !cd.hasDel && cd.hasDict && PySem.HandSPX.refsVE bm
    | _, _ => false)
  | _ => false) && (decide (PySem.W.findIn K (.ref C) "__setattr__" = some (some (.builtin "object.__setattr__"))) && (decide (PySem.W.subIn K (.ref C) (.type "BaseException") = some true) && (decide (PySem.W.typeIn K (.ref C) = some (.type "type")) && PySem.W.keepIn K (.ref C))))
end Dr
namespace Dr
open PySem PySem.Spec PyProof.Rows L2
def bvB (K : PySem.W.Frag) (C : Addr) : Bool := decide (PySem.W.specialIn K (.ref C) "__getattribute__" = some (some (.builtin "type.__getattribute__"))) && (PySem.W.readsIn K C (.type "type") && (match PySem.W.findCls K (.ref C) (.type "type") "__init__" with
  | some (.val (.builtin n)) => n == "ValueError.__init__"
  | _ => false))
end Dr
namespace Hx
open PySem PySem.Spec PyProof.Rows L2 Dr
def bvF (B : String) (K : PySem.W.Frag) : Bool := bvB K (He.ga K (Str.ofString B))
end Hx
namespace Hx
open PySem PySem.Spec PyProof.Rows L2 Dr
def oexF (C : String) (K : PySem.W.Frag) : Bool := oexB K (He.ga K (Str.ofString C))
end Hx
namespace Hx
open PySem PySem.Spec PyProof.Rows L2 Dr
def iniF (C : String) (fs : List String) (K : PySem.W.Frag) : Bool := decide (PySem.W.findIn K (.ref (He.ga K (Str.ofString C))) "__init__" = some (some (.ref (He.fAd K (Str.ofString C, some "__init__"))))) && (decide (PySem.W.typeIn K (.ref (He.fAd K (Str.ofString C, some "__init__"))) = some (.type "function")) &&
  fs.all fun f => decide (PySem.W.findIn K (.ref (He.ga K (Str.ofString C))) (Str.ofString f) = some none))
end Hx
namespace Dr
open PySem PySem.Spec PyProof.Rows L2
def biB (K : PySem.W.Frag) (C f : Addr) : Bool := decide (PySem.W.specialIn K (.ref C) "__getattribute__" = some (some (.builtin "type.__getattribute__"))) && (PySem.W.readsIn K C (.type "type") && ((match PySem.W.findCls K (.ref C) (.type "type") "__init__" with
  | some (.val (.ref g)) => decide (g = f)
  | _ => false) && PySem.W.keepIn K (.ref f)))
end Dr
namespace Dr
open PySem PySem.Spec PyProof.Rows L2
def entOf (e : DictEntry) : Option (Str × Int × Int) := match e.key, e.val with
  | .str k _, .int i _ => some (k, e.hash, i)
  | _, _ => none
end Dr
namespace Dr
open PySem PySem.Spec PyProof.Rows L2
def gdW (K : PySem.W.Frag) (a : Addr) : Option (List (Option (Str × Int × Int))) := match K.lookup a with
  | some ⟨.type c, none, .dict es _, sl⟩ => (match decide (c = "dict") && (sl.isEmpty && !(a == sysModules)) with
    | true => some (es.toList.map entOf)
    | false => none)
  | _ => none
end Dr
namespace Dr
open PySem PySem.Spec PyProof.Rows L2
def entIn (P : Params) (l : List (String × Int)) : List (Option (Str × Int × Int)) := l.map fun k => some (Str.ofString k.1, PyData.keyHash P (Str.ofString k.1), k.2)
end Dr
namespace Hx
open PySem PySem.Spec PyProof.Rows L2 Dr
abbrev GDs : Type := List (Str × List (String × Int))
end Hx
namespace Hx
open PySem PySem.Spec PyProof.Rows L2 Dr
abbrev AlG : Type := AlX × List (Option (List (Option (Str × Int × Int))))
end Hx
namespace Hx
open PySem PySem.Spec PyProof.Rows L2 Dr
def obsG (n : Nat) (fa : List He.Fa) (fn : List He.DefD) (fx : List (PySem.W.Frag → Bool)) (xs : List Str) (gs : GDs) (g : Addr → Option Obj) : AlG := (obsX n fa fn fx xs g, gs.map fun p => gdW (frT n g) (He.ga (frT n g) p.1))
end Hx
namespace Hx
open PySem PySem.Spec PyProof.Rows L2 Dr
/-- the base class's __init__ -/
def biF (C : String) (K : PySem.W.Frag) : Bool := biB K (He.ga K (Str.ofString C)) (He.fAd K (Str.ofString C, some "__init__"))
end Hx
namespace Dr
open PySem PySem.Spec PyProof.Rows L2
def kentOf (e : DictEntry) : Option (Str × Int) := match e.key with
  | .str k _ => some (k, e.hash)
  | _ => none
end Dr
namespace Dr
open PySem PySem.Spec PyProof.Rows L2
def fhW (K : PySem.W.Frag) (a : Addr) : Option (List (Option (Str × Int))) := match K.lookup a with
  | some ⟨.type c, none, .dict es _, sl⟩ => (match decide (c = "dict") && (sl.isEmpty && !(a == sysModules)) with
    | true => some (es.toList.map kentOf)
    | false => none)
  | _ => none
end Dr
namespace Dr
open PySem PySem.Spec PyProof.Rows L2
abbrev FTb : Type := List (String × List String)
end Dr
namespace Dr
open PySem PySem.Spec PyProof.Rows L2
def kentIn (P : Params) (tbl : FTb) : List (Option (Str × Int)) := tbl.map fun k => some (Str.ofString k.1, PyData.keyHash P (Str.ofString k.1))
end Dr
namespace Dr
open PySem PySem.Spec PyProof.Rows L2
def fnsB (K : PySem.W.Frag) (t : Addr) (l : List String) : Bool := match K.lookup t with
  | some ⟨.type c, _, .seq its _, _⟩ => decide (c = "tuple") && decide (its.toList = l.map fun n => Value.ref (He.ga K (Str.ofString n)))
  | _ => false
end Dr
namespace Dr
open PySem PySem.Spec PyProof.Rows L2
def entsB (K : PySem.W.Frag) : List DictEntry → FTb → Bool
  | [], [] => true
  | e :: es, k :: l => (match e.val with
    | .ref t => fnsB K t k.2
    | _ => false) && entsB K es l
  | _, _ => false
end Dr
namespace Dr
open PySem PySem.Spec PyProof.Rows L2
def fvB (K : PySem.W.Frag) (a : Addr) (tbl : FTb) : Bool := match K.lookup a with
  | some ⟨_, _, .dict es _, _⟩ => entsB K es.toList tbl
  | _ => false
end Dr
namespace Dr
open PySem PySem.Spec PyProof.Rows L2
def tsB (K : PySem.W.Frag) (a : Addr) (l : List String) : Bool := match K.lookup a with
  | some ⟨.type c, _, .seq its _, _⟩ => decide (c = "tuple") && decide (its.toList.map (fun v => match v with
    | .str k _ => some k
    | _ => none) = l.map fun k => some (Str.ofString k))
  | _ => false
end Dr
namespace Hx
open PySem PySem.Spec PyProof.Rows L2 Dr
abbrev FTs : Type := List (String × FTb)
end Hx
namespace Hx
open PySem PySem.Spec PyProof.Rows L2 Dr
abbrev AlF : Type := AlG × List (Option (List (Option (Str × Int))))
end Hx
namespace Hx
open PySem PySem.Spec PyProof.Rows L2 Dr
def obsF (n : Nat) (fa : List He.Fa) (fn : List He.DefD) (fx : List (PySem.W.Frag → Bool)) (xs : List Str) (gs : GDs) (fs : FTs) (g : Addr → Option Obj) : AlF := (obsG n fa fn fx xs gs g, fs.map fun p => fhW (frT n g) (He.ga (frT n g) (Str.ofString p.1)))
end Hx
namespace Hx
open PySem PySem.Spec PyProof.Rows L2 Dr
def fvF (nm : String) (tbl : FTb) (K : PySem.W.Frag) : Bool := fvB K (He.ga K (Str.ofString nm)) tbl
end Hx
namespace Hx
open PySem PySem.Spec PyProof.Rows L2 Dr
def tsF (nm : String) (l : List String) (K : PySem.W.Frag) : Bool := tsB K (He.ga K (Str.ofString nm)) l
end Hx
namespace Hx
open PySem PySem.Spec PyProof.Rows L2 Dr
/-- what the head's run is to show -/
def valF (fn : List He.DefD) (gs : GDs) (fs : FTs) (w : World) : AlF := (((He.valD fn, true), gs.map fun p => some (entIn w.params p.2)), fs.map fun p => some (kentIn w.params p.2))
end Hx
end S_DR0
section S_DBase
set_option linter.all false
set_option maxRecDepth 100000
/-! DBase: data as trees, an abstract heap of what changes, and what a piece of the program does, as a transformer of wishes. No program and no model in sight. -/
namespace Dm
open PySem (Str)

/-- data: what never changes is a tree; ref: a thing of the heap -/
inductive D where
  | non | bl (b : Bool) | int (i : Int) | str (x : Str) | byt (b : Array UInt8)
  | tup (l : List D) | lst (l : List D) | scr (l : List D) | set (l : List Int) | ref (a : Nat) | ty (n : String)
  | exc (a d : Nat) (c : String) (ks : List String) (l : List D) | lam (i : Nat)
  | fn (n : String) | stp (l : List D) | ktp (l : List D)
instance : Inhabited D := ⟨.non⟩

/-- what stands at an address: a list, a dict (t: its keys are tuples), an instance -/
inductive HObj where
  | lst (l : List D) | dct (t : Bool) (l : List (D × D)) | ins (c : String) (fs : List (String × D))
instance : Inhabited HObj := ⟨.lst []⟩
abbrev Hd := Nat → Option HObj
def up (h : Hd) (a : Nat) (o : HObj) : Hd := fun b => if b = a then some o else h b
def rm (h : Hd) (a : Nat) : Hd := fun b => if b = a then none else h b
@[simp] theorem up_same (h : Hd) (a : Nat) (o : HObj) : up h a o a = some o := by simp [up]
theorem up_ne {h : Hd} {a b : Nat} {o : HObj} (e : b ≠ a) : up h a o b = h b := by simp [up, e]
@[simp] theorem up_up (h : Hd) (a : Nat) (o u : HObj) : up (up h a o) a u = up h a u := by
  funext b; unfold up; split <;> rfl
@[simp] theorem rm_up (h : Hd) (a : Nat) (o : HObj) (e : h a = none) : rm (up h a o) a = h := by
  funext b; unfold rm up; by_cases q : b = a
  · subst q; simp [e]
  · simp [q]
theorem rm_same (h : Hd) (a : Nat) : rm h a a = none := by simp [rm]
theorem rm_ne {h : Hd} {a b : Nat} (e : b ≠ a) : rm h a b = h b := by simp [rm, e]
theorem up_comm {h : Hd} {a b : Nat} {o u : HObj} (e : a ≠ b) : up (up h a o) b u = up (up h b u) a o := by
  funext c; unfold up; by_cases h1 : c = a
  · subst h1; simp [e]
  · simp [h1]
theorem up_eq_self {h : Hd} {a : Nat} {o : HObj} (e : h a = some o) : up h a o = h := by
  funext b; unfold up; by_cases q : b = a
  · subst q; simp [e]
  · simp [q]
/-- h stands in h' as it was -/
def Sub (h h' : Hd) : Prop := ∀ a o, h a = some o → h' a = some o
theorem Sub.refl (h : Hd) : Sub h h := fun _ _ e => e
theorem Sub.trans {a b c : Hd} (x : Sub a b) (y : Sub b c) : Sub a c := fun q o e => y q o (x q o e)
theorem Sub.up {h h' : Hd} {a : Nat} {o : HObj} (x : Sub h h') (n : h a = none) : Sub h (up h' a o) := fun b u e => by
  by_cases q : b = a
  · subst q; rw [n] at e; cases e
  · rw [up_ne q]; exact x b u e
theorem Sub.up2 {h h' : Hd} {a : Nat} {o : HObj} (x : Sub h h') : Sub (Dm.up h a o) (Dm.up h' a o) := fun b u e => by
  by_cases q : b = a
  · subst q; rw [up_same] at e ⊢; exact e
  · rw [up_ne q] at e ⊢; exact x b u e
theorem ne_of_some {h : Hd} {a b : Nat} {o : HObj} (x : h a = some o) (y : h b = none) : a ≠ b := by
  intro e; subst e; rw [x] at y; cases y

structure Ex where
  cls : String
  args : List (String × D)
abbrev St := List (Option D)
abbrev XP := Ex → Hd → Prop
abbrev QP := D → Hd → Prop
abbrev TE := St → Hd → XP → QP → Prop
abbrev TT := St → Hd → XP → (Bool → Hd → Prop) → Prop
abbrev TA := St → Hd → XP → (List D → Hd → Prop) → Prop
/-- what is wanted behind a statement -/
structure En where
  nx : St → Hd → Prop
  rt : QP
  bk : St → Hd → Prop := fun _ _ => False
  ct : St → Hd → Prop := fun _ _ => False
  ex : Ex → St → Hd → Prop := fun _ _ _ => False
abbrev TS := En → St → Hd → Prop
abbrev Sp := List D → Hd → XP → QP → Prop

/-! ### numbers and places -/
/-- Python's index into a list of length n -/
def ixP (n : Nat) (i : Int) : Nat := (if i < 0 then i + n else i).toNat
def ixOk (n : Nat) (i : Int) : Prop := -(n : Int) ≤ i ∧ i < n
instance (n : Nat) (i : Int) : Decidable (ixOk n i) := inferInstanceAs (Decidable (_ ∧ _))
/-- a slice's end, clamped -/
def clampP (n : Nat) (d : Nat) : Option Int → Nat
  | none => d
  | some i => if i < 0 then (i + n).toNat else min i.toNat n
def cutP {α : Type} (xs : List α) (lo hi : Option Int) : List α :=
  (xs.drop (clampP xs.length 0 lo)).take (clampP xs.length xs.length hi - clampP xs.length 0 lo)
/-- the most items that a list may hold -/
def lim : Nat := 1000000

/-! ### data: equality, order -/
mutual
/-- == -/
def eqv : D → D → Bool
  | .non, e => match e with
    | .non => true
    | _ => false
  | .bl a, e => match e with
    | .bl b => a == b
    | .int j => (if a then 1 else 0) == j
    | _ => false
  | .int i, e => match e with
    | .bl b => i == (if b then 1 else 0)
    | .int j => i == j
    | _ => false
  | .str x, e => match e with
    | .str y => x == y
    | _ => false
  | .lst xs, e => match e with
    | .lst ys => eqvL xs ys
    | _ => false
  | .tup xs, e => match e with
    | .tup ys => eqvL xs ys
    | _ => false
  | .byt _, _ => false
  | .scr _, _ => false
  | .set _, _ => false
  | .ref _, _ => false
  | .ty _, _ => false
  | .exc _ _ _ _ _, _ => false
  | .lam _, _ => false
  | .fn _, _ => false
  | .stp _, _ => false
  | .ktp _, _ => false
def eqvL : List D → List D → Bool
  | [], ys => match ys with
    | [] => true
    | _ :: _ => false
  | x :: xs, ys => match ys with
    | [] => false
    | y :: ys => eqv x y && eqvL xs ys
end
mutual
/-- plain data, not deeper than n -/
def plain (n : Nat) : D → Bool
  | .non => true
  | .bl _ => true
  | .int _ => true
  | .str x => x.cps.all fun c => decide (c < 1114112)
  | .lst xs => decide (0 < n) && plainL (n - 1) xs
  | .tup xs => decide (0 < n) && plainL (n - 1) xs
  | .byt _ => false
  | .scr _ => false
  | .set _ => false
  | .ref _ => false
  | .ty _ => false
  | .exc _ _ _ _ _ => false
  | .lam _ => false
  | .fn _ => false
  | .stp _ => false
  | .ktp _ => false
def plainL (n : Nat) : List D → Bool
  | [] => true
  | x :: xs => plain n x && plainL n xs
end
mutual
/-- <, where Python has an answer for data of one make -/
def ltv : D → D → Bool
  | .int i, e => match e with
    | .int j => decide (i < j)
    | _ => false
  | .tup xs, e => match e with
    | .tup ys => ltvL xs ys
    | _ => false
  | .lst xs, e => match e with
    | .lst ys => ltvL xs ys
    | _ => false
  | .non, _ => false
  | .bl _, _ => false
  | .str _, _ => false
  | .byt _, _ => false
  | .scr _, _ => false
  | .set _, _ => false
  | .ref _, _ => false
  | .ty _, _ => false
  | .exc _ _ _ _ _, _ => false
  | .lam _, _ => false
  | .fn _, _ => false
  | .stp _, _ => false
  | .ktp _, _ => false
def ltvL : List D → List D → Bool
  | [], ys => match ys with
    | [] => false
    | _ :: _ => true
  | x :: xs, ys => match ys with
    | [] => false
    | y :: ys => if eqv x y then ltvL xs ys else ltv x y
end
end Dm
end S_DBase
section S_DTr
set_option linter.all false
set_option maxRecDepth 100000
/-! DTr: the pieces of a program as transformers of wishes over data and the abstract heap. -/
namespace Dm
open PySem (Str)

/-! ### reading -/
/-- a sequence's items: a tuple, a frozen list, a list of the heap -/
def sq (h : Hd) : D → Option (List D)
  | .tup l => some l
  | .lst l => some l
  | .scr l => some l
  | .ref a => match h a with
    | some (.lst l) => some l
    | _ => none
  | _ => none
/-- a list's items -/
def sqL (h : Hd) : D → Option (List D)
  | .lst l => some l
  | .ref a => match h a with
    | some (.lst l) => some l
    | _ => none
  | _ => none
/-- a list of the heap as data -/
def vw (h : Hd) : D → D
  | .ref a => match h a with
    | some (.lst l) => .lst l
    | _ => .ref a
  | d => d
/-- a field -/
def lkF (f : String) : List (String × D) → Option D
  | [] => none
  | (g, v) :: r => if g = f then some v else lkF f r
def putF (f : String) (v : D) : List (String × D) → List (String × D)
  | [] => [(f, v)]
  | (g, u) :: r => if g = f then (g, v) :: r else (g, u) :: putF f v r
/-- a dict's entry: keys are ints, texts, tuples of these -/
def lkD (k : D) : List (D × D) → Option D
  | [] => none
  | (g, v) :: r => if eqv g k then some v else lkD k r
def putD (k v : D) (l : List (D × D)) : List (D × D) :=
  if (l.any fun p => eqv p.1 k) = true then l.map (fun p => if eqv p.1 k = true then (p.1, v) else p) else l ++ [(k, v)]
/-- what is no sequence -/
def flat : D → Bool
  | .non => true
  | .bl _ => true
  | .int _ => true
  | .str _ => true
  | _ => false
/-- a key of a dict of ints and texts; of a dict of tuples of these -/
def key1 : D → Bool
  | .int _ => true
  | .str _ => true
  | _ => false
def keyOk (t : Bool) : D → Bool
  | .int _ => !t
  | .str _ => !t
  | .tup l => t && l.all key1
  | _ => false
def intsOf : List D → Option (List Int)
  | [] => some []
  | .int i :: r => (intsOf r).map (i :: ·)
  | _ => none

/-- data of one make: what < decides -/
inductive Mk where
  | int | tup (l : List Mk) | tups (m : Mk) | lsts (m : Mk)
mutual
def mkOk : Mk → D → Bool
  | .int, .int _ => true
  | .tup ms, .tup l => mkOkL ms l
  | .tups m, .tup l => mkOkA m l
  | .lsts m, .lst l => mkOkA m l
  | _, _ => false
def mkOkL : List Mk → List D → Bool
  | [], [] => true
  | m :: ms, d :: ds => mkOk m d && mkOkL ms ds
  | _, _ => false
def mkOkA : Mk → List D → Bool
  | _, [] => true
  | m, d :: ds => mkOk m d && mkOkA m ds
end
mutual
def mkDep : Mk → Nat
  | .int => 0
  | .tup ms => mkDepL ms + 1
  | .tups m => mkDep m + 1
  | .lsts m => mkDep m + 1
def mkDepL : List Mk → Nat
  | [] => 0
  | m :: ms => max (mkDep m) (mkDepL ms)
end
/-! ### expressions -/
def eVar (i : Nat) : TE := fun s h _ Q => ∃ d, s[i]? = some (some d) ∧ Q d h
def eC (d : D) : TE := fun _ h _ Q => Q d h
def eBin (f : D → D → Hd → QP → Prop) (a b : TE) : TE := fun s h E Q => a s h E fun x h1 => b s h1 E fun y h2 => f x y h2 Q
def eUn (f : D → Hd → QP → Prop) (a : TE) : TE := fun s h E Q => a s h E fun x h1 => f x h1 Q
/-! operators by values -/
def oAdd : D → D → Hd → QP → Prop
  | .int i, .int j, h, Q => Q (.int (i + j)) h
  | .str a, .str b, h, Q => a.length + b.length ≤ lim ∧ Q (.str (a ++ b)) h
  | .tup a, .tup b, h, Q => a.length + b.length ≤ lim ∧ Q (.tup (a ++ b)) h
  | .lst a, .lst b, h, Q => a.length + b.length ≤ lim ∧ Q (.lst (a ++ b)) h
  | .ref p, .lst b, h, Q => ∃ a, h p = some (.lst a) ∧ a.length + b.length ≤ lim ∧ Q (.lst (a ++ b)) h
  | .lst a, .ref q, h, Q => ∃ b, h q = some (.lst b) ∧ a.length + b.length ≤ lim ∧ Q (.lst (a ++ b)) h
  | .ref p, .ref q, h, Q => ∃ a b, h p = some (.lst a) ∧ h q = some (.lst b) ∧ a.length + b.length ≤ lim ∧ Q (.lst (a ++ b)) h
  | _, _, _, _ => False
def oSub : D → D → Hd → QP → Prop
  | .int i, .int j, h, Q => Q (.int (i - j)) h
  | _, _, _, _ => False
def oMul : D → D → Hd → QP → Prop
  | .int i, .int j, h, Q => ((-(2 ^ 64) < i ∧ i < 2 ^ 64) ∨ (-(2 ^ 64) < j ∧ j < 2 ^ 64)) ∧ Q (.int (i * j)) h
  | .tup l, .int k, h, Q => -(2 ^ 63) ≤ k ∧ k ≤ 1000 ∧ l.length ≤ 1000 ∧ Q (.tup (List.replicate k.toNat l).flatten) h
  | .lst l, .int k, h, Q => k ≤ 1000 ∧ l.length ≤ 1000 ∧ -(2 ^ 63) ≤ k ∧ Q (.lst (List.replicate k.toNat l).flatten) h
  | _, _, _, _ => False
def oFdiv : D → D → Hd → QP → Prop
  | .int i, .int j, h, Q => (0 < j ∧ j < 1073741824) ∧ Q (.int (i / j)) h
  | _, _, _, _ => False
def oMod : D → D → Hd → QP → Prop
  | .int i, .int j, h, Q => 0 < j ∧ Q (.int (i % j)) h
  | _, _, _, _ => False
def oPow : D → D → Hd → QP → Prop
  | .int i, .int j, h, Q => (0 ≤ j ∧ j ≤ 1000000 ∧ i.natAbs < 2 ^ 64) ∧ Q (.int (i ^ j.toNat)) h
  | _, _, _, _ => False
def oNeg : D → Hd → QP → Prop
  | .int i, h, Q => Q (.int (-i)) h
  | _, _, _ => False
def oEq (x y : D) (h : Hd) (Q : QP) : Prop := plain 50 (vw h x) = true ∧ plain 50 (vw h y) = true ∧ Q (.bl (eqv (vw h x) (vw h y))) h
def oNe (x y : D) (h : Hd) (Q : QP) : Prop := plain 50 (vw h x) = true ∧ plain 50 (vw h y) = true ∧ Q (.bl (!eqv (vw h x) (vw h y))) h
def oLt : D → D → Hd → QP → Prop
  | .int i, .int j, h, Q => Q (.bl (decide (i < j))) h
  | .tup xs, .tup ys, h, Q => ∃ a b, intsOf xs = some a ∧ intsOf ys = some b ∧ Q (.bl (ltvL xs ys)) h
  | _, _, _, _ => False
def oLe : D → D → Hd → QP → Prop
  | .int i, .int j, h, Q => Q (.bl (decide (i ≤ j))) h
  | .tup xs, .tup ys, h, Q => ∃ a b, intsOf xs = some a ∧ intsOf ys = some b ∧ Q (.bl (!ltvL ys xs)) h
  | _, _, _, _ => False
def oGt : D → D → Hd → QP → Prop
  | .int i, .int j, h, Q => Q (.bl (decide (j < i))) h
  | .tup xs, .tup ys, h, Q => ∃ a b, intsOf xs = some a ∧ intsOf ys = some b ∧ Q (.bl (ltvL ys xs)) h
  | _, _, _, _ => False
def oGe : D → D → Hd → QP → Prop
  | .int i, .int j, h, Q => Q (.bl (decide (j ≤ i))) h
  | .tup xs, .tup ys, h, Q => ∃ a b, intsOf xs = some a ∧ intsOf ys = some b ∧ Q (.bl (!ltvL xs ys)) h
  | _, _, _, _ => False
def isNon : D → Bool
  | .non => true
  | _ => false
def oIsN (x : D) (h : Hd) (Q : QP) : Prop := Q (.bl (isNon x)) h
def oIsNotN (x : D) (h : Hd) (Q : QP) : Prop := Q (.bl (!isNon x)) h
def dctAt (h : Hd) : D → Option (Bool × List (D × D))
  | .ref a => match h a with
    | some (.dct t l) => some (t, l)
    | _ => none
  | _ => none
/-- x in y -/
def oIn (x : D) : D → Hd → QP → Prop
  | .tup l, h, Q => flat x = true ∧ l.all flat = true ∧ Q (.bl (l.any fun z => eqv z x)) h
  | .lst l, h, Q => plain 50 x = true ∧ plainL 50 l = true ∧ Q (.bl (l.any fun z => eqv z x)) h
  | .ref p, h, Q => ∃ o, h p = some o ∧ match o with
    | .lst l => plain 50 x = true ∧ plainL 50 l = true ∧ Q (.bl (l.any fun z => eqv z x)) h
    | .dct t l => keyOk t x = true ∧ Q (.bl (lkD x l).isSome) h
    | .ins _ _ => False
  | _, _, _ => False
def oNotIn (x y : D) (h : Hd) (Q : QP) : Prop := oIn x y h fun d h' => ∃ b, d = .bl b ∧ Q (.bl (!b)) h'
/-- x[y] -/
def oIx : D → D → Hd → QP → Prop
  | .tup l, y, h, Q => ∃ i v, y = .int i ∧ ixOk l.length i ∧ l[ixP l.length i]? = some v ∧ Q v h
  | .lst l, y, h, Q => ∃ i v, y = .int i ∧ ixOk l.length i ∧ l[ixP l.length i]? = some v ∧ Q v h
  | .scr l, y, h, Q => ∃ i v, y = .int i ∧ ixOk l.length i ∧ l[ixP l.length i]? = some v ∧ Q v h
  | .str z, y, h, Q => ∃ i c, y = .int i ∧ z.length ≤ lim ∧ ixOk z.cps.toList.length i ∧ z.cps.toList[ixP z.cps.toList.length i]? = some c ∧ Q (.str ⟨#[c]⟩) h
  | .ref p, y, h, Q => ∃ o, h p = some o ∧ match o with
    | .lst l => ∃ i v, y = .int i ∧ ixOk l.length i ∧ l[ixP l.length i]? = some v ∧ Q v h
    | .dct t l => ∃ v, keyOk t y = true ∧ lkD y l = some v ∧ Q v h
    | .ins _ _ => False
  | _, _, _, _ => False
/-! tests -/
def tE (a : TE) : TT := fun s h E Q => a s h E fun x h1 => ∃ b, x = .bl b ∧ Q b h1
def tAnd (a b : TT) : TT := fun s h E Q => a s h E fun c h1 => if c = true then b s h1 E Q else Q false h1
def tOr (a b : TT) : TT := fun s h E Q => a s h E fun c h1 => if c = true then Q true h1 else b s h1 E Q
def tNot (a : TT) : TT := fun s h E Q => a s h E fun c h1 => Q (!c) h1
def eAnd (a b : TE) : TE := fun s h E Q => a s h E fun x h1 => ∃ c, x = .bl c ∧ if c = true then b s h1 E Q else Q (.bl false) h1
def eOr (a b : TE) : TE := fun s h E Q => a s h E fun x h1 => ∃ c, x = .bl c ∧ if c = true then Q (.bl true) h1 else b s h1 E Q
def eNot (a : TE) : TE := fun s h E Q => a s h E fun x h1 => ∃ c, x = .bl c ∧ Q (.bl (!c)) h1
def eIf (t : TT) (a b : TE) : TE := fun s h E Q => t s h E fun c h1 => if c = true then a s h1 E Q else b s h1 E Q
/-- a < b <= c -/
def eChain (f g : D → D → Hd → QP → Prop) (a b c : TE) : TE := fun s h E Q => a s h E fun x h1 => b s h1 E fun y h2 => f x y h2 fun z h3 => ∃ k, z = .bl k ∧ if k = true then c s h3 E fun w h4 => g y w h4 Q else Q (.bl false) h3
/-! arguments -/
def aNil : TA := fun _ h _ Q => Q [] h
def aCons (a : TE) (r : TA) : TA := fun s h E Q => a s h E fun x h1 => r s h1 E fun xs h2 => Q (x :: xs) h2
/-! displays -/
def eTup (a : TA) : TE := fun s h E Q => a s h E fun xs h1 => xs.length ≤ lim ∧ Q (.tup xs) h1
def eLst (a : TA) : TE := fun s h E Q => a s h E fun xs h1 => xs.length ≤ lim ∧ Q (.lst xs) h1
def eLstH (a : TA) : TE := fun s h E Q => a s h E fun xs h1 => xs.length ≤ lim ∧ ∀ p, h1 p = none → Q (.ref p) (up h1 p (.lst xs))
def eDnew (t : Bool) : TE := fun _ h _ Q => ∀ p, h p = none → Q (.ref p) (up h p (.dct t []))
/-- {k: v, ..} of constants -/
def eDlit (l : List (D × D)) : TE := fun _ h _ Q => ∀ p, h p = none → Q (.ref p) (up h p (.dct false l))
/-! slices -/
def eSl (a : TE) (lo hi : Option TE) : TE := fun s h E Q => a s h E fun x h1 =>
  (match lo with
    | none => fun (k : Option Int → Hd → Prop) => k none h1
    | some e => fun k => e s h1 E fun y h2 => ∃ i, y = D.int i ∧ k (some i) h2) fun l h2 =>
  (match hi with
    | none => fun (k : Option Int → Hd → Prop) => k none h2
    | some e => fun k => e s h2 E fun y h3 => ∃ i, y = D.int i ∧ k (some i) h3) fun r h3 =>
  match x with
    | .tup xs => Q (.tup (cutP xs l r)) h3
    | x => ∃ xs, sqL h3 x = some xs ∧ Q (.lst (cutP xs l r)) h3
/-! fields, calls -/
def eFld (c : String) (a : TE) (f : String) : TE := fun s h E Q => a s h E fun x h1 => ∃ p fs v, x = .ref p ∧ h1 p = some (.ins c fs) ∧ lkF f fs = some v ∧ Q v h1
def eCall (sp : Sp) (a : TA) : TE := fun s h E Q => a s h E fun xs h1 => sp xs h1 E Q
def eMeth (c m : String) (sp : Sp) (o : TE) (a : TA) : TE := fun s h E Q => o s h E fun x h1 => ∃ p fs, x = .ref p ∧ h1 p = some (.ins c fs) ∧ lkF m fs = none ∧ a s h1 E fun xs h2 => sp (x :: xs) h2 E Q
def eMake (c : String) (sp : Sp) (a : TA) : TE := fun s h E Q => a s h E fun xs h1 => ∀ p, h1 p = none → sp (.ref p :: xs) (up h1 p (.ins c [])) E fun v h2 => v = .non ∧ Q (.ref p) h2
/-- a built-in by values -/
def eB (r : List D → Hd → QP → Prop) (a : TA) : TE := fun s h E Q => a s h E fun xs h1 => r xs h1 Q
/-- a built-in type's method by values -/
def eM (ty : D → Hd → Prop) (r : D → List D → Hd → QP → Prop) (o : TE) (a : TA) : TE := fun s h E Q => o s h E fun x h1 => ty x h1 ∧ a s h1 E fun xs h2 => r x xs h2 Q
/-- a list; a dict -/
def tyL (x : D) (h : Hd) : Prop := ∃ l, sqL h x = some l
def tyD (x : D) (h : Hd) : Prop := ∃ p t l, x = .ref p ∧ h p = some (.dct t l)
/-! built-ins -/
def bLen : List D → Hd → QP → Prop
  | [x], h, Q => ∃ l, sq h x = some l ∧ Q (.int l.length) h
  | _, _, _ => False
def bInt : List D → Hd → QP → Prop
  | [.int i], h, Q => Q (.int i) h
  | [.bl b], h, Q => Q (.int (if b = true then 1 else 0)) h
  | _, _, _ => False
def tyNm (h : Hd) : D → Option String
  | .non => some "NoneType"
  | .bl _ => some "bool"
  | .int _ => some "int"
  | .str _ => some "str"
  | .byt _ => some "bytes"
  | .tup _ => some "tuple"
  | .lst _ => some "list"
  | .scr _ => some "list"
  | .ref a => (match h a with
    | some (.lst _) => some "list"
    | some (.dct _ _) => some "dict"
    | _ => none)
  | .set _ => none
  | .ty _ => none
  | .exc _ _ _ _ _ => none
  | .lam _ => none
  | .fn _ => none
  | .stp _ => none
  | .ktp _ => none
def tyNms : List String := ["int", "bool", "str", "tuple", "list", "dict", "bytes"]
def isTy (h : Hd) (n : String) (d : D) : Option Bool := match tyNm h d with
  | none => none
  | some m => if tyNms.contains n = true then some (m == n || (m == "bool" && n == "int")) else none
def bIsi : List D → Hd → QP → Prop
  | [x, .ty n], h, Q => ∃ b, isTy h n x = some b ∧ Q (.bl b) h
  | _, _, _ => False
def bTuple : List D → Hd → QP → Prop
  | [x], h, Q => ∃ l, sq h x = some l ∧ Q (.tup l) h
  | _, _, _ => False
def bList : List D → Hd → QP → Prop
  | [x], h, Q => ∃ l, sq h x = some l ∧ Q (.lst l) h
  | _, _, _ => False
def bListH : List D → Hd → QP → Prop
  | [x], h, Q => ∃ l, sq h x = some l ∧ ∀ p, h p = none → Q (.ref p) (up h p (.lst l))
  | _, _, _ => False
/-- list(d), sorted(d) of a dict's keys -/
def bListD : List D → Hd → QP → Prop
  | [x], h, Q => ∃ t l, dctAt h x = some (t, l) ∧ Q (.lst (l.map (·.1))) h
  | _, _, _ => False
def boolsOf : List D → Option (List Bool)
  | [] => some []
  | .bl b :: r => (boolsOf r).map (b :: ·)
  | _ => none
def bAll : List D → Hd → QP → Prop
  | [x], h, Q => ∃ l bs, sqL h x = some l ∧ boolsOf l = some bs ∧ Q (.bl (bs.all id)) h
  | _, _, _ => False
def bMax2 : List D → Hd → QP → Prop
  | [.int i, .int j], h, Q => Q (.int (if j > i then j else i)) h
  | _, _, _ => False
def bMin2 : List D → Hd → QP → Prop
  | [.int i, .int j], h, Q => Q (.int (if j < i then j else i)) h
  | _, _, _ => False
/-- sorted by < -/
def srt (l l' : List D) : Prop := l'.Perm l ∧ l'.Pairwise fun x y => ltv y x = false
/-- sorted(l): of one make -/
def bSorted : List D → Hd → QP → Prop
  | [x], h, Q => ∃ l m, sq h x = some l ∧ mkDep m ≤ 20 ∧ (∀ ms, m = .tups ms → ∀ d ∈ l, d ≠ .tup []) ∧ m ≠ .tup [] ∧ (∀ d ∈ l, mkOk m d = true) ∧ ∀ l', srt l l' → Q (.lst l') h
  | _, _, _ => False
def bSet : List D → Hd → QP → Prop
  | [x], h, Q => ∃ l ns, sq h x = some l ∧ intsOf l = some ns ∧ ns.length < 64 ∧ Q (.set ns) h
  | _, _, _ => False
def bSortedSet : List D → Hd → QP → Prop
  | [.set ns], h, Q => ∀ ms : List Int, ms.Pairwise (· < ·) → (∀ k, k ∈ ms ↔ k ∈ ns) → Q (.lst (ms.map D.int)) h
  | _, _, _ => False
/-- sorted(d) of a dict with int keys -/
def bSortedD : List D → Hd → QP → Prop
  | [x], h, Q => ∃ l ns, dctAt h x = some (false, l) ∧ intsOf (l.map (·.1)) = some ns ∧ l.length < 64 ∧ ∀ ms : List Int, ms.Perm ns → ms.Pairwise (· ≤ ·) → Q (.lst (ms.map D.int)) h
  | _, _, _ => False
def bMax1 : List D → Hd → QP → Prop
  | [x], h, Q => ∃ l m, sqL h x = some l ∧ l ≠ [] ∧ mkDep m ≤ 20 ∧ (∀ d ∈ l, mkOk m d = true) ∧ ∀ d, d ∈ l → (∀ y ∈ l, ltv d y = false) → Q d h
  | _, _, _ => False
def bMin1 : List D → Hd → QP → Prop
  | [x], h, Q => ∃ l m, sqL h x = some l ∧ l ≠ [] ∧ mkDep m ≤ 20 ∧ (∀ d ∈ l, mkOk m d = true) ∧ ∀ d, d ∈ l → (∀ y ∈ l, ltv y d = false) → Q d h
  | _, _, _ => False
/-! methods of lists and dicts -/
def mApp : D → List D → Hd → QP → Prop
  | .ref p, [x], h, Q => ∃ l, h p = some (.lst l) ∧ l.length < lim ∧ Q .non (up h p (.lst (l ++ [x])))
  | _, _, _, _ => False
def mExt : D → List D → Hd → QP → Prop
  | .ref p, [x], h, Q => ∃ l r, h p = some (.lst l) ∧ sqL h x = some r ∧ l.length + r.length ≤ lim ∧ Q .non (up h p (.lst (l ++ r)))
  | _, _, _, _ => False
/-- the first item that is == is taken out -/
def rmFst (x : D) : List D → List D
  | [] => []
  | y :: r => if eqv y x then r else y :: rmFst x r
def mRem : D → List D → Hd → QP → Prop
  | .ref p, [x], h, Q => ∃ l, h p = some (.lst l) ∧ plainL 50 l = true ∧ plain 50 x = true ∧ l.any (fun y => eqv y x) = true ∧ Q .non (up h p (.lst (rmFst x l)))
  | _, _, _, _ => False
def fstIx (x : D) : List D → Option Nat
  | [] => none
  | y :: r => if eqv y x then some 0 else (fstIx x r).map (· + 1)
def mIdx : D → List D → Hd → QP → Prop
  | y, [x], h, Q => ∃ l i, sqL h y = some l ∧ plainL 50 l = true ∧ plain 50 x = true ∧ fstIx x l = some i ∧ Q (.int i) h
  | _, _, _, _ => False
/-- d.get(k, x) -/
def mGet2 : D → List D → Hd → QP → Prop
  | y, [k, x], h, Q => ∃ t l, dctAt h y = some (t, l) ∧ keyOk t k = true ∧ Q ((lkD k l).getD x) h
  | _, _, _, _ => False

/-! ### what is walked -/
abbrev TI := St → Hd → XP → (List D → (Hd → Prop) → Hd → Prop) → Prop
def iSeq (a : TE) : TI := fun s h E R => a s h E fun x h1 => match x with
  | .tup l => R l (fun _ => True) h1
  | .lst l => R l (fun _ => True) h1
  | .scr l => R l (fun _ => True) h1
  | .ref p => ∃ l, h1 p = some (.lst l) ∧ R l (fun h' => h' p = some (.lst l)) h1
  | _ => False
def rngD (lo : Int) (n : Nat) : List D := (List.range n).map fun (k : Nat) => D.int (lo + k)
def iRng1 (a : TE) : TI := fun s h E R => a s h E fun x h1 => ∃ j, x = D.int j ∧ (-(2 ^ 62) ≤ j ∧ j ≤ 1000000) ∧ R (rngD 0 j.toNat) (fun _ => True) h1
def iRng2 (a b : TE) : TI := fun s h E R => a s h E fun x h1 => b s h1 E fun y h2 => ∃ i j, x = .int i ∧ y = .int j ∧ (-(2 ^ 62) ≤ i ∧ i ≤ 1000000 ∧ -(2 ^ 62) ≤ j ∧ j ≤ 1000000 ∧ j - i ≤ 1000000) ∧ R (rngD i (j - i).toNat) (fun _ => True) h2
def enumD : Int → List D → List D
  | _, [] => []
  | i, d :: r => .tup [.int i, d] :: enumD (i + 1) r
def zipD : List D → List D → List D
  | x :: xs, y :: ys => .tup [x, y] :: zipD xs ys
  | _, _ => []
def iEnum (a : TE) : TI := fun s h E R => a s h E fun x h1 => match x with
  | .tup l => R (enumD 0 l) (fun _ => True) h1
  | .lst l => R (enumD 0 l) (fun _ => True) h1
  | .ref p => ∃ l, h1 p = some (.lst l) ∧ R (enumD 0 l) (fun h' => h' p = some (.lst l)) h1
  | _ => False
def iZip (a b : TE) : TI := fun s h E R => a s h E fun x h1 => b s h1 E fun y h2 => ∃ l m, x = .tup l ∧ y = .tup m ∧ R (zipD l m) (fun _ => True) h2
/-! ### targets -/
abbrev TG := D → St → Hd → XP → (St → Hd → Prop) → Prop
abbrev TGs := List D → St → Hd → XP → (St → Hd → Prop) → Prop
def gN (i : Nat) : TG := fun d s h _ Q => Q (s.set i (some d)) h
def gNil : TGs := fun l s h _ Q => l = [] ∧ Q s h
def gCons (g : TG) (r : TGs) : TGs := fun l s h E Q => ∃ d ds, l = d :: ds ∧ g d s h E fun s1 h1 => r ds s1 h1 E Q
def gTup (n : Nat) (r : TGs) : TG := fun d s h E Q => ∃ l, d = .tup l ∧ l.length = n ∧ r l s h E Q
/-- d[k] = v -/
def gDst (o k : TE) : TG := fun d s h E Q => o s h E fun x h1 => k s h1 E fun y h2 => ∃ p t l, x = .ref p ∧ h2 p = some (.dct t l) ∧ keyOk t y = true ∧ l.length < lim ∧ Q s (up h2 p (.dct t (putD y d l)))
/-- xs[i] = v -/
def gLst (o k : TE) : TG := fun d s h E Q => o s h E fun x h1 => k s h1 E fun y h2 => ∃ p l i, x = .ref p ∧ h2 p = some (.lst l) ∧ y = .int i ∧ ixOk l.length i ∧ Q s (up h2 p (.lst (l.set (ixP l.length i) d)))
/-! ### comprehensions -/
/-- the block's own names forgotten -/
def wipe (s : St) : List Nat → St
  | [] => s
  | v :: vs => (wipe s vs).set v none
/-- what is made of the items: acc holds what is made so far -/
def lcL (ok : Hd → Prop) (g : TG) (t : TT) (e : TE) (s : St) (Q : List D → Hd → Prop) : List D → List D → Hd → Prop
  | [], acc, h => Q acc h
  | d :: r, acc, h => g d s h (fun _ _ => False) fun s2 h2 => t s2 h2 (fun _ _ => False) fun b h3 => if b = true then e s2 h3 (fun _ _ => False) fun y h4 => ok h4 ∧ lcL ok g t e s Q r (acc ++ [y]) h4 else ok h3 ∧ lcL ok g t e s Q r acc h3
def tYes : TT := fun _ h _ Q => Q true h
def eLc (it : TI) (g : TG) (t : TT) (e : TE) (vs : List Nat) : TE := fun s h E Q => it s h E fun l ok h1 => lcL ok g t e (wipe s vs) (fun ys h2 => Q (.lst ys) h2) l [] h1
def eLcH (it : TI) (g : TG) (t : TT) (e : TE) (vs : List Nat) : TE := fun s h E Q => it s h E fun l ok h1 => lcL ok g t e (wipe s vs) (fun ys h2 => ∀ p, h2 p = none → Q (.ref p) (up h2 p (.lst ys))) l [] h1
/-- a dict's entries: p the dict -/
def dcL (p : Nat) (tk : Bool) (ok : Hd → Prop) (g : TG) (t : TT) (k v : TE) (s : St) (Q : QP) : List D → Hd → Prop
  | [], h => Q (.ref p) h
  | d :: r, h => g d s h (fun _ _ => False) fun s2 h2 => t s2 h2 (fun _ _ => False) fun b h3 => if b = true then k s2 h3 (fun _ _ => False) fun y h4 => v s2 h4 (fun _ _ => False) fun z h5 =>
      ∃ l, h5 p = some (.dct tk l) ∧ keyOk tk y = true ∧ l.length < lim ∧ ok (up h5 p (.dct tk (putD y z l))) ∧ dcL p tk ok g t k v s Q r (up h5 p (.dct tk (putD y z l))) else ok h3 ∧ dcL p tk ok g t k v s Q r h3
def eDc (tk : Bool) (it : TI) (g : TG) (t : TT) (k v : TE) (vs : List Nat) : TE := fun s h E Q => it s h E fun l ok h1 => ∀ p, h1 p = none → ok (up h1 p (.dct tk [])) ∧ dcL p tk ok g t k v (wipe s vs) Q l (up h1 p (.dct tk []))
/-! ### statements -/
def sNext : TS := fun P s h => P.nx s h
def sSeq (a b : TS) : TS := fun P s h => a { P with nx := b P } s h
def sExpr (e : TE) : TS := fun P s h => e s h (fun x h' => P.ex x s h') fun _ h1 => P.nx s h1
def sRet (e : TE) : TS := fun P s h => e s h (fun x h' => P.ex x s h') P.rt
def sRetN : TS := fun P _ h => P.rt .non h
def sIf (t : TT) (a b : TS) : TS := fun P s h => t s h (fun x h' => P.ex x s h') fun c h1 => if c = true then a P s h1 else b P s h1
def sAsg (e : TE) (g : TG) : TS := fun P s h => e s h (fun x h' => P.ex x s h') fun d h1 => g d s h1 (fun x h' => ∀ s', P.ex x s' h') P.nx
def sFld (c : String) (o : TE) (f : String) (e : TE) : TS := fun P s h => e s h (fun x h' => P.ex x s h') fun d h1 => o s h1 (fun x h' => P.ex x s h') fun x h2 =>
  ∃ p fs, x = .ref p ∧ h2 p = some (.ins c fs) ∧ fs.length < 1000 ∧ P.nx s (up h2 p (.ins c (putF f d fs)))
def sBreak : TS := fun P s h => P.bk s h
def sCont : TS := fun P s h => P.ct s h
/-- the list in slot i is never changed from here on -/
def sFrz (i : Nat) : TS := fun P s h => ∃ p l, s[i]? = some (some (.ref p)) ∧ h p = some (.lst l) ∧ P.nx (s.set i (some (.lst l))) (rm h p)
def forL (ok : Hd → Prop) (g : TG) (b : TS) (P : En) : List D → St → Hd → Prop
  | [], s, h => P.nx s h
  | d :: r, s, h => g d s h (fun x h' => ∀ s', P.ex x s' h') fun s2 h2 => b { P with nx := fun s3 h3 => ok h3 ∧ forL ok g b P r s3 h3, ct := fun s3 h3 => ok h3 ∧ forL ok g b P r s3 h3, bk := P.nx } s2 h2
def sFor (it : TI) (g : TG) (b : TS) : TS := fun P s h => it s h (fun x h' => P.ex x s h') fun l ok h1 => forL ok g b P l s h1
def whN (t : TT) (b : TS) (P : En) : Nat → St → Hd → Prop
  | 0, _, _ => False
  | n + 1, s, h => t s h (fun x h' => P.ex x s h') fun c h1 => if c = true then b { P with nx := whN t b P n, ct := whN t b P n, bk := P.nx } s h1 else P.nx s h1
def sWhile (t : TT) (b : TS) : TS := fun P s h => ∃ n, whN t b P n s h
/-- never reached -/
def sNever : TS := fun _ _ _ => False
/-- raise C(..) -/
def sRaise (c : String) (fs : List String) (a : TA) : TS := fun P s h => a s h (fun x h' => P.ex x s h') fun xs h1 => xs.length = fs.length ∧ P.ex ⟨c, fs.zip xs⟩ s h1
/-! ### a def -/
def dstart (n : Nat) (ds : List D) : St := ds.map some ++ List.replicate (n - ds.length) none
/-- what a def's end must give: what it made and does not hand back is forgotten -/
def endOf (E : XP) (Q : QP) : En where
  nx := fun _ h' => ∃ h0, Sub h0 h' ∧ Q .non h0
  rt := fun d h' => ∃ h0, Sub h0 h' ∧ Q d h0
  ex := fun e _ h' => ∃ h0, Sub h0 h' ∧ E e h0
/-- a def's promise is its own body's meaning: np parameters, n names -/
def inl (np n : Nat) (t : TS) : Sp := fun ds h _ Q => ds.length = np ∧ t (endOf (fun _ _ => False) Q) (dstart n ds) h
/-- the promise of a law -/
def spLaw : Sp := fun ds h _ Q => ∃ ns : List Int, ds = [.scr (ns.map .int)] ∧ ns.length ≤ 63 ∧ h = (fun _ => none) ∧ ∀ h', Q (.bl true) h'
/-- the body t of n names keeps the promise sp -/
def Keeps (n : Nat) (t : TS) (sp : Sp) : Prop := ∀ ds h E Q, sp ds h E Q → t (endOf E Q) (dstart n ds) h
end Dm
end S_DTr
section S_DCore
set_option Elab.async false
set_option linter.all false
set_option maxRecDepth 100000
set_option maxHeartbeats 1000000
/-! DCore: data trees and the abstract heap against the layer's values; what lifts a transformer. -/
namespace Dr
open PySem PySem.Spec PyProof.Rows L2

/-- the classes' places; the tables of code objects that grow, with the name that their code bears -/
structure CM where
  cls : String → Addr
  tabs : List (Addr × Str)
instance : CoeFun CM fun _ => String → Addr := ⟨CM.cls⟩
/-- places that no datum may speak of; what a lambda's number means -/
structure Hdn where
  p : Addr → Prop
  lam : Nat → Addr → List (Addr × HO) → Prop
instance : CoeFun Hdn fun _ => Addr → Prop := ⟨Hdn.p⟩
abbrev Hdn.add (x : Hdn) (D : Addr) : Hdn := ⟨fun a => x.p a ∨ a = D, x.lam⟩
def hdn0 : Hdn := ⟨fun _ => False, fun _ _ _ => False⟩
structure Gd where
  K : PySem.W.Frag
  P : Program
  w : World
  cm : CM
  hid : Hdn
/-- a table of code objects -/
def isTbl : HO → Bool
  | .tbl _ => true
  | _ => false
/-- what may be hidden -/
def hkd : HO → Bool
  | .tbl _ => false
  | .ext _ => false
  | .tup _ => false
  | _ => true
/-- the value of an exception's field -/
def fxV : Dm.D → Option V
  | .int i => some (.int i)
  | .str x => some (.str x)
  | .non => some .non
  | .bl b => some (.bl b)
  | _ => none
def FX : List String → List Dm.D → List (Str × V) → Prop
  | [], [], gs => gs = []
  | k :: ks, d :: l, gs => ∃ v r, gs = (Str.ofString k, v) :: r ∧ fxV d = some v ∧ FX ks l r
  | _, _, _ => False
/-- a tuple's place: tracked, or known to its object -/
def TupA (H : Hp) (a : Addr) (vs : List V) : Prop := H a = some (.tup vs) ∨ ∃ o : Obj, H a = some (.frz o (.tup vs)) ∧ o.cls = .type "tuple" ∧ o.dict = none
theorem TupA.sqT {K : PySem.W.Frag} {H : Hp} {a : Addr} {vs : List V} (x : TupA H a vs) : SqT K H a vs := by
  rcases x with x | ⟨o, x, _⟩
  · exact .inl (.inl x)
  · exact .inl (.inr ⟨o, x⟩)
/-- a key of a dict -/
def k1R : Dm.D → Key → Prop
  | .int i, k => k = .inl i
  | .str x, k => k = .inr x
  | _, _ => False
def ksR : List Dm.D → List Key → Prop
  | [], ks => ks = []
  | d :: l, ks => ∃ k r, ks = k :: r ∧ k1R d k ∧ ksR l r
/-- the script's own list: locked, or as it stands, or of the written part -/
def ScR (g : Gd) (H : Hp) (h : Dm.Hd) (a : Addr) (vs : List V) : Prop := (¬ g.hid a ∧ ((∃ o, H a = some (.frz o (.lst vs))) ∨ (h a = none ∧ H a = some (.lst vs)))) ∨ SqL g.K (fun _ => none) a vs
theorem ScR.sql {g : Gd} {H : Hp} {h : Dm.Hd} {a : Addr} {vs : List V} (x : ScR g H h a vs) : SqL g.K H a vs := by
  rcases x with ⟨_, x | ⟨_, x⟩⟩ | x
  · exact .inl (.inr x)
  · exact .inl (.inl x)
  · rcases x with x | x
    · rcases x with x | ⟨_, x⟩ <;> cases x
    · exact .inr x
theorem ScR.of {g : Gd} {H : Hp} {h : Dm.Hd} {a : Addr} {vs : List V} (x : SqL g.K H a vs) (nh : ¬ g.hid a) (n : h a = none) : ScR g H h a vs := by
  rcases x with (x | x) | x
  · exact .inl ⟨nh, .inr ⟨n, x⟩⟩
  · exact .inl ⟨nh, .inl x⟩
  · exact .inr (.inr x)
mutual
/-- a datum d at the value v -/
def VR (g : Gd) (H : Hp) (h : Dm.Hd) : Dm.D → V → Prop
  | .non, v => v = .non
  | .bl b, v => v = .bl b
  | .int i, v => v = .int i
  | .str x, v => v = .str x
  | .byt b, v => v = .byt b
  | .ty n, v => v = .ty n
  | .exc a d c ks l, v => v = .ref a ∧ (ks ≠ [] → ¬ g.hid d ∧ h d = none ∧ ∃ gs, H d = some (.xd gs) ∧ FX ks l gs)
  | .lam i, v => ∃ f os, v = .ref f ∧ (∀ p ∈ os, ¬ g.hid p.1 ∧ h p.1 = none ∧ H p.1 = some p.2 ∧ (∀ ob es, p.2 ≠ .frz ob es) ∧ isTbl p.2 = false) ∧ g.hid.lam i f os
  | .ref a, v => v = .ref a
  | .set l, v => ∃ a S n, v = .ref a ∧ ¬ g.hid a ∧ h a = none ∧ H a = some (SetO g.w a S n) ∧ (∀ k, S k = true ↔ k ∈ l) ∧ n < 64
  | .tup l, v => ∃ a vs, v = .ref a ∧ ¬ g.hid a ∧ TupA H a vs ∧ l.length ≤ sizeLine ∧ VRs g H h l vs
  | .fn n, v => v = .ref (g.cm n)
  | .stp l, v => ∃ a vs, v = .ref a ∧ SqT g.K (fun _ => none) a vs ∧ VRs g H h l vs
  | .ktp l, v => ∃ a vs o, v = .ref a ∧ ¬ g.hid a ∧ H a = some (.frz o (.tup vs)) ∧ o.cls = .type "tuple" ∧ o.dict = none ∧ l.length ≤ sizeLine ∧ VRs g H h l vs
  | .lst l, v => ∃ a vs, v = .ref a ∧ ¬ g.hid a ∧ H a = some (.lst vs) ∧ h a = none ∧ l.length ≤ sizeLine ∧ VRs g H h l vs
  | .scr l, v => ∃ a vs, v = .ref a ∧ ScR g H h a vs ∧ l.length ≤ sizeLine ∧ VRs g H h l vs
def VRs (g : Gd) (H : Hp) (h : Dm.Hd) : List Dm.D → List V → Prop
  | [], vs => vs = []
  | d :: l, vs => ∃ v r, vs = v :: r ∧ VR g H h d v ∧ VRs g H h l r
end
/-- entries of a dict -/
def ER (g : Gd) (H : Hp) (h : Dm.Hd) : List (Dm.D × Dm.D) → List (Key × V) → Prop
  | [], es => es = []
  | (k, d) :: l, es => ∃ q v r, es = (q, v) :: r ∧ k1R k q ∧ VR g H h d v ∧ ER g H h l r
def ERT (g : Gd) (H : Hp) (h : Dm.Hd) : List (Dm.D × Dm.D) → List (List Key × V) → Prop
  | [], es => es = []
  | (k, d) :: l, es => ∃ ds q v r, k = .tup ds ∧ es = (q, v) :: r ∧ ksR ds q ∧ VR g H h d v ∧ ERT g H h l r
/-- fields of an instance -/
def FR (g : Gd) (H : Hp) (h : Dm.Hd) : List (String × Dm.D) → List (Str × V) → Prop
  | [], fs => fs = []
  | (f, d) :: l, fs => ∃ v r, fs = (Str.ofString f, v) :: r ∧ VR g H h d v ∧ FR g H h l r
def OR (g : Gd) (H : Hp) (h : Dm.Hd) (a : Addr) : Dm.HObj → Prop
  | .lst l => ∃ vs, H a = some (.lst vs) ∧ l.length ≤ sizeLine ∧ VRs g H h l vs
  | .dct false l => ∃ es, H a = some (.dK es) ∧ l.length ≤ sizeLine ∧ ER g H h l es
  | .dct true l => ∃ es, H a = some (.dT es) ∧ l.length ≤ sizeLine ∧ ERT g H h l es
  | .ins c fs => ∃ dx gs, H a = some (.ins (g.cm c) dx gs) ∧ FR g H h fs gs
/-- the table at P: of code that bears the name q -/
def TabD (g : Gd) (H : Hp) (h : Dm.Hd) (P : Addr) (q : Str) : Prop := h P = none ∧ ¬ g.hid P ∧ ∃ ps : Array Value, H P = some (.tbl ps) ∧ TriplesOk ps.toList ∧ ∀ (pos : Pos) (cv : Value), codeAmong pos ps.toList = some cv → ∃ c, cv = .ref c ∧ ¬ g.hid c ∧ h c = none ∧ H c = some (LamX.CodeO c q)
structure HR (g : Gd) (H : Hp) (h : Dm.Hd) : Prop where
  ob : ∀ a o, h a = some o → OR g H h a o
  hd : ∀ a, g.hid a → h a = none ∧ ∃ u, H a = some u ∧ hkd u = true
  tb : ∀ p ∈ g.cm.tabs, TabD g H h p.1 p.2
instance {g : Gd} {H : Hp} {h : Dm.Hd} : CoeFun (HR g H h) fun _ => ∀ a o, h a = some o → OR g H h a o := ⟨HR.ob⟩
theorem HR.nh {g : Gd} {H : Hp} {h : Dm.Hd} (r : HR g H h) {a : Addr} (e : H a = none) : ¬ g.hid a := fun z => by
  obtain ⟨_, u, q, _⟩ := r.hd a z
  rw [e] at q
  cases q
theorem HR.nh2 {g : Gd} {H : Hp} {h : Dm.Hd} (r : HR g H h) {a : Addr} {o : Dm.HObj} (e : h a = some o) : ¬ g.hid a := fun z => by
  rw [(r.hd a z).1] at e
  cases e
/-- what is not held by h stays, and is not held by h' -/
def Stp (h : Dm.Hd) (H : Hp) (h' : Dm.Hd) (H' : Hp) : Prop := ∀ a o, H a = some o → h a = none → isTbl o = false → H' a = some o ∧ h' a = none
theorem Stp.refl (h : Dm.Hd) (H : Hp) : Stp h H h H := fun _ _ e n _ => ⟨e, n⟩
theorem Stp.trans {h h1 h2 : Dm.Hd} {H H1 H2 : Hp} (a : Stp h H h1 H1) (b : Stp h1 H1 h2 H2) : Stp h H h2 H2 := fun c o e n t => b c o (a c o e n t).1 (a c o e n t).2 t
theorem codeO_nt {c : Addr} {q : Str} : isTbl (LamX.CodeO c q) = false := rfl
/-- a table over a step that leaves it -/
theorem TabD.stp {g : Gd} {H H' : Hp} {h h' : Dm.Hd} {P : Addr} {q : Str} (t : TabD g H h P q) (s : Stp h H h' H') (e1 : h' P = none) (e2 : H' P = H P) : TabD g H' h' P q := by
  obtain ⟨_, t0, ps, t1, t2, t3⟩ := t
  refine ⟨e1, t0, ps, e2.trans t1, t2, fun pos cv hc => ?_⟩
  obtain ⟨c, a1, a2, a3, a4⟩ := t3 pos cv hc
  obtain ⟨b1, b2⟩ := s c _ a4 a3 codeO_nt
  exact ⟨c, a1, a2, b2, b1⟩
section
variable {g : Gd} {H H' : Hp} {h h' : Dm.Hd}
/-- h holds no tuple, no locked thing -/
theorem HR.free (r : HR g H h) {a : Addr} {u : HO} (e : H a = some u) (ht : (∃ xs, u = .tup xs) ∨ (∃ o v, u = .frz o v)) : h a = none := by
  cases q : h a with
  | none => rfl
  | some o =>
    have x := r a o q
    have hn : ∀ u', H a = some u' → u' = u := fun u' e' => by rw [e] at e'; exact (Option.some.inj e').symm
    cases o with
    | lst l =>
      obtain ⟨vs, e1, _⟩ := x
      have := hn _ e1
      subst this
      rcases ht with ⟨_, z⟩ | ⟨_, _, z⟩ <;> cases z
    | dct t l =>
      cases t with
      | false =>
        obtain ⟨es, e1, _⟩ := x
        have := hn _ e1
        subst this
        rcases ht with ⟨_, z⟩ | ⟨_, _, z⟩ <;> cases z
      | true =>
        obtain ⟨es, e1, _⟩ := x
        have := hn _ e1
        subst this
        rcases ht with ⟨_, z⟩ | ⟨_, _, z⟩ <;> cases z
    | ins c fs =>
      obtain ⟨dx, gs, e1, _⟩ := x
      have := hn _ e1
      subst this
      rcases ht with ⟨_, z⟩ | ⟨_, _, z⟩ <;> cases z
theorem HR.there (r : HR g H h) {a : Addr} {o : Dm.HObj} (e : h a = some o) : ∃ u, H a = some u := by
  have x := r a o e
  cases o with
  | lst l => obtain ⟨vs, e1, _⟩ := x; exact ⟨_, e1⟩
  | dct t l =>
    cases t with
    | false => obtain ⟨vs, e1, _⟩ := x; exact ⟨_, e1⟩
    | true => obtain ⟨vs, e1, _⟩ := x; exact ⟨_, e1⟩
  | ins c fs => obtain ⟨dx, gs, e1, _⟩ := x; exact ⟨_, e1⟩
theorem HR.off (r : HR g H h) {a : Addr} (e : H a = none) : h a = none := by
  cases q : h a with
  | none => rfl
  | some o => obtain ⟨u, z⟩ := r.there q; rw [e] at z; cases z
/-- h holds no tuple, no locked thing, whatever is hidden -/
def NoT (H : Hp) (h : Dm.Hd) : Prop := ∀ a u, H a = some u → ((∃ xs, u = .tup xs) ∨ (∃ o v, u = .frz o v)) → h a = none
theorem HR.noT (r : HR g H h) : NoT H h := fun _ _ e t => r.free e t
theorem SqT.stp' (r : NoT H h) (s : Stp h H h' H') {a : Addr} {vs : List V} (q : SqT g.K H a vs) : SqT g.K H' a vs := by
  rcases q with (q | ⟨o, q⟩) | q
  · exact .inl (.inl (s a _ q (r a _ q (.inl ⟨_, rfl⟩)) rfl).1)
  · exact .inl (.inr ⟨o, (s a _ q (r a _ q (.inr ⟨_, _, rfl⟩)) rfl).1⟩)
  · exact .inr q
theorem TupA.stp' (r : NoT H h) (s : Stp h H h' H') {a : Addr} {vs : List V} (q : TupA H a vs) : TupA H' a vs := by
  rcases q with q | ⟨o, q, x⟩
  · exact .inl (s a _ q (r a _ q (.inl ⟨_, rfl⟩)) rfl).1
  · exact .inr ⟨o, (s a _ q (r a _ q (.inr ⟨_, _, rfl⟩)) rfl).1, x⟩
theorem Rd.stp (s : Stp h H h' H') {a : Addr} {u : HO} (n : h a = none) (nt : isTbl u = false) (q : Rd H a u) : Rd H' a u ∧ h' a = none := by
  rcases q with q | ⟨o, q⟩
  · exact ⟨.inl (s a _ q n nt).1, (s a _ q n nt).2⟩
  · exact ⟨.inr ⟨o, (s a _ q n rfl).1⟩, (s a _ q n rfl).2⟩
theorem ScR.stp' (r : NoT H h) (s : Stp h H h' H') {a : Addr} {vs : List V} (x : ScR g H h a vs) : ScR g H' h' a vs := by
  rcases x with ⟨n, ⟨o, e2⟩ | ⟨e1, e2⟩⟩ | e2
  · exact .inl ⟨n, .inl ⟨o, (s a _ e2 (r a _ e2 (.inr ⟨_, _, rfl⟩)) rfl).1⟩⟩
  · obtain ⟨z1, z2⟩ := s a _ e2 e1 rfl
    exact .inl ⟨n, .inr ⟨z2, z1⟩⟩
  · exact .inr e2
mutual
theorem VR.stp' (r : NoT H h) (s : Stp h H h' H') : ∀ (d : Dm.D) (v : V), VR g H h d v → VR g H' h' d v
  | .non, _, x => by unfold VR at x ⊢; exact x
  | .bl _, _, x => by unfold VR at x ⊢; exact x
  | .int _, _, x => by unfold VR at x ⊢; exact x
  | .str _, _, x => by unfold VR at x ⊢; exact x
  | .byt _, _, x => by unfold VR at x ⊢; exact x
  | .ty _, _, x => by unfold VR at x ⊢; exact x
  | .exc a d c ks l, _, x => by
    unfold VR at x ⊢
    obtain ⟨e1, e2⟩ := x
    refine ⟨e1, fun ne => ?_⟩
    obtain ⟨n1, n2, gs, n3, n4⟩ := e2 ne
    obtain ⟨z1, z2⟩ := s d _ n3 n2 rfl
    exact ⟨n1, z2, gs, z1, n4⟩
  | .lam i, _, x => by
    unfold VR at x ⊢
    obtain ⟨f, os, e1, e2, e3⟩ := x
    refine ⟨f, os, e1, fun p hp => ?_, e3⟩
    obtain ⟨n1, n2, n3, n4, n5⟩ := e2 p hp
    obtain ⟨z1, z2⟩ := s p.1 _ n3 n2 n5
    exact ⟨n1, z2, z1, n4, n5⟩
  | .ref _, _, x => by unfold VR at x ⊢; exact x
  | .set l, _, x => by
    unfold VR at x ⊢
    obtain ⟨a, S, n, e1, e0, e2, e3, e4, e5⟩ := x
    obtain ⟨z1, z2⟩ := s a _ e3 e2 rfl
    exact ⟨a, S, n, e1, e0, z2, z1, e4, e5⟩
  | .tup l, _, x => by
    unfold VR at x ⊢
    obtain ⟨a, vs, e1, e0, e2, e3, e4⟩ := x
    exact ⟨a, vs, e1, e0, e2.stp' r s, e3, VRs.stp' r s l vs e4⟩
  | .fn _, _, x => by unfold VR at x ⊢; exact x
  | .stp l, _, x => by
    unfold VR at x ⊢
    obtain ⟨a, vs, e1, e2, e3⟩ := x
    exact ⟨a, vs, e1, e2, VRs.stp' r s l vs e3⟩
  | .ktp l, _, x => by
    unfold VR at x ⊢
    obtain ⟨a, vs, o, e1, e0, e2, e3, e4, e5, e6⟩ := x
    exact ⟨a, vs, o, e1, e0, (s a _ e2 (r a _ e2 (.inr ⟨_, _, rfl⟩)) rfl).1, e3, e4, e5, VRs.stp' r s l vs e6⟩
  | .lst l, _, x => by
    unfold VR at x ⊢
    obtain ⟨a, vs, e1, e0, e2, e3, e4, e5⟩ := x
    obtain ⟨z1, z2⟩ := s a _ e2 e3 rfl
    exact ⟨a, vs, e1, e0, z1, z2, e4, VRs.stp' r s l vs e5⟩
  | .scr l, _, x => by
    unfold VR at x ⊢
    obtain ⟨a, vs, e1, e2, e4, e5⟩ := x
    exact ⟨a, vs, e1, ScR.stp' r s e2, e4, VRs.stp' r s l vs e5⟩
theorem VRs.stp' (r : NoT H h) (s : Stp h H h' H') : ∀ (l : List Dm.D) (vs : List V), VRs g H h l vs → VRs g H' h' l vs
  | [], _, x => by unfold VRs at x ⊢; exact x
  | d :: l, _, x => by
    unfold VRs at x ⊢
    obtain ⟨v, q, e, x1, x2⟩ := x
    exact ⟨v, q, e, VR.stp' r s d v x1, VRs.stp' r s l q x2⟩
end
theorem SqT.stp (r : HR g H h) (s : Stp h H h' H') {a : Addr} {vs : List V} (q : SqT g.K H a vs) : SqT g.K H' a vs := SqT.stp' r.noT s q
theorem VR.stp (r : HR g H h) (s : Stp h H h' H') (d : Dm.D) (v : V) (x : VR g H h d v) : VR g H' h' d v := VR.stp' r.noT s d v x
theorem VRs.stp (r : HR g H h) (s : Stp h H h' H') (d : List Dm.D) (v : List V) (x : VRs g H h d v) : VRs g H' h' d v := VRs.stp' r.noT s d v x
theorem ER.stp (r : HR g H h) (s : Stp h H h' H') : ∀ (l : List (Dm.D × Dm.D)) (es : List (Key × V)), ER g H h l es → ER g H' h' l es
  | [], _, x => by unfold ER at x ⊢; exact x
  | (k, d) :: l, _, x => by
    unfold ER at x ⊢
    obtain ⟨q, v, t, e, x1, x2, x3⟩ := x
    exact ⟨q, v, t, e, x1, VR.stp r s d v x2, ER.stp r s l t x3⟩
theorem ERT.stp (r : HR g H h) (s : Stp h H h' H') : ∀ (l : List (Dm.D × Dm.D)) (es : List (List Key × V)), ERT g H h l es → ERT g H' h' l es
  | [], _, x => by unfold ERT at x ⊢; exact x
  | (k, d) :: l, _, x => by
    unfold ERT at x ⊢
    obtain ⟨ds, q, v, t, e0, e, x1, x2, x3⟩ := x
    exact ⟨ds, q, v, t, e0, e, x1, VR.stp r s d v x2, ERT.stp r s l t x3⟩
theorem FR.stp (r : HR g H h) (s : Stp h H h' H') : ∀ (l : List (String × Dm.D)) (es : List (Str × V)), FR g H h l es → FR g H' h' l es
  | [], _, x => by unfold FR at x ⊢; exact x
  | (k, d) :: l, _, x => by
    unfold FR at x ⊢
    obtain ⟨v, t, e, x1, x2⟩ := x
    exact ⟨v, t, e, VR.stp r s d v x1, FR.stp r s l t x2⟩
/-- the contents of an object over a step that keeps its place -/
theorem OR.stp (r : HR g H h) (s : Stp h H h' H') {a : Addr} {o : Dm.HObj} (x : OR g H h a o) (k : ∀ u, H a = some u → H' a = some u) : OR g H' h' a o := by
  cases o with
  | lst l => obtain ⟨vs, e1, e2, e3⟩ := x; exact ⟨vs, k _ e1, e2, VRs.stp r s l vs e3⟩
  | dct t l =>
    cases t with
    | false => obtain ⟨vs, e1, e2, e3⟩ := x; exact ⟨vs, k _ e1, e2, ER.stp r s l vs e3⟩
    | true => obtain ⟨vs, e1, e2, e3⟩ := x; exact ⟨vs, k _ e1, e2, ERT.stp r s l vs e3⟩
  | ins c fs => obtain ⟨dx, gs, e1, e3⟩ := x; exact ⟨dx, gs, k _ e1, FR.stp r s fs gs e3⟩
/-- H grows at a free place, h does not hold it -/
theorem Stp.new {a : Addr} {u : HO} (n : H a = Option.none) : Stp h H h (upd H a u) := fun b o e m _ => by
  have : b ≠ a := fun z => by subst z; rw [n] at e; cases e
  exact ⟨by rw [upd_ne this]; exact e, m⟩
/-- .. and h holds it -/
theorem Stp.newUp {a : Addr} {u : HO} {o : Dm.HObj} (n : H a = Option.none) : Stp h H (Dm.up h a o) (upd H a u) := fun b v e m _ => by
  have : b ≠ a := fun z => by subst z; rw [n] at e; cases e
  exact ⟨by rw [upd_ne this]; exact e, by rw [Dm.up_ne this]; exact m⟩
/-- what h holds is changed -/
theorem Stp.write {a : Addr} {u : HO} {o o' : Dm.HObj} (n : h a = some o) : Stp h H (Dm.up h a o') (upd H a u) := fun b v e m _ => by
  have : b ≠ a := fun z => by subst z; rw [n] at m; cases m
  exact ⟨by rw [upd_ne this]; exact e, by rw [Dm.up_ne this]; exact m⟩
/-- h lets go -/
theorem Stp.sub (s : Dm.Sub h' h) : Stp h H h' H := fun b v e m _ => ⟨e, by
  cases q : h' b with
  | none => rfl
  | some o => rw [s b o q] at m; cases m⟩
theorem HR.new (r : HR g H h) {a : Addr} {u : HO} (n : H a = Option.none) : HR g (upd H a u) h := ⟨fun b o e =>
  (r b o e).stp r (Stp.new n) fun v z => by rw [upd_ne (fun q => by subst q; rw [n] at z; cases z)]; exact z, fun b z => by
    obtain ⟨z1, v, z2⟩ := r.hd b z
    exact ⟨z1, v, by rw [upd_ne (fun q => by subst q; rw [n] at z2; cases z2.1)]; exact z2⟩, fun p hp => by
    obtain ⟨t1, _, ps, t3, _⟩ := id (r.tb p hp)
    exact (r.tb p hp).stp (Stp.new n) t1 (upd_ne (ne_of_none t3 n))⟩
theorem HR.newUp (r : HR g H h) {a : Addr} {u : HO} {o : Dm.HObj} (n : H a = Option.none) (x : OR g (upd H a u) (Dm.up h a o) a o) : HR g (upd H a u) (Dm.up h a o) := ⟨fun b v e => by
  by_cases q : b = a
  · subst q; rw [Dm.up_same] at e; cases e; exact x
  · rw [Dm.up_ne q] at e
    exact (r b v e).stp r (Stp.newUp n) fun v z => by rw [upd_ne q]; exact z, fun b z => by
    obtain ⟨z1, v, z2⟩ := r.hd b z
    have q : b ≠ a := fun q => by subst q; rw [n] at z2; cases z2.1
    exact ⟨by rw [Dm.up_ne q]; exact z1, v, by rw [upd_ne q]; exact z2⟩, fun p hp => by
    obtain ⟨t1, _, ps, t3, _⟩ := id (r.tb p hp)
    exact (r.tb p hp).stp (Stp.newUp n) (by rw [Dm.up_ne (ne_of_none t3 n)]; exact t1) (upd_ne (ne_of_none t3 n))⟩
theorem HR.write (r : HR g H h) {a : Addr} {u : HO} {o o' : Dm.HObj} (n : h a = some o) (x : OR g (upd H a u) (Dm.up h a o') a o') : HR g (upd H a u) (Dm.up h a o') := ⟨fun b v e => by
  by_cases q : b = a
  · subst q; rw [Dm.up_same] at e; cases e; exact x
  · rw [Dm.up_ne q] at e
    exact (r b v e).stp r (Stp.write n) fun v z => by rw [upd_ne q]; exact z, fun b z => by
    obtain ⟨z1, v, z2⟩ := r.hd b z
    have q : b ≠ a := fun q => by subst q; rw [n] at z1; cases z1
    exact ⟨by rw [Dm.up_ne q]; exact z1, v, by rw [upd_ne q]; exact z2⟩, fun p hp => by
    have t1 := (r.tb p hp).1
    have ne : p.1 ≠ a := fun q => by rw [q, n] at t1; cases t1
    exact (r.tb p hp).stp (Stp.write n) (by rw [Dm.up_ne ne]; exact t1) (upd_ne ne)⟩
theorem _root_.Dm.Sub.none {h h' : Dm.Hd} (s : Dm.Sub h' h) {a : Addr} (e : h a = Option.none) : h' a = Option.none := by
  cases q : h' a with
  | none => rfl
  | some o => rw [s _ o q] at e; cases e
theorem HR.sub (r : HR g H h) (s : Dm.Sub h' h) : HR g H h' := ⟨fun b o e => (r b o (s b o e)).stp r (Stp.sub s) fun _ z => z, fun b z => by
    obtain ⟨z1, v, z2⟩ := r.hd b z
    refine ⟨?_, v, z2⟩
    exact s.none z1, fun p hp => (r.tb p hp).stp (Stp.sub s) (s.none (r.tb p hp).1) rfl⟩
theorem sub_rm (h : Dm.Hd) (a : Nat) : Dm.Sub (Dm.rm h a) h := fun b o e => by
  unfold Dm.rm at e
  split at e
  · cases e
  · exact e
/-- a list of the heap is let go: it is data from here on -/
theorem frz (r : HR g H h) {a : Addr} {l : List Dm.D} (e : h a = some (.lst l)) : VR g H (Dm.rm h a) (.lst l) (.ref a) := by
  obtain ⟨vs, e1, e2, e3⟩ := r a _ e
  unfold VR
  exact ⟨a, vs, rfl, r.nh2 e, e1, Dm.rm_same h a, e2, VRs.stp r (Stp.sub (sub_rm h a)) l vs e3⟩
theorem VRs.len : ∀ {l : List Dm.D} {vs : List V}, VRs g H h l vs → vs.length = l.length
  | [], _, x => by unfold VRs at x; subst x; rfl
  | d :: l, _, x => by
    unfold VRs at x
    obtain ⟨v, r, e, _, x2⟩ := x
    subst e
    rw [List.length_cons, List.length_cons, x2.len]
theorem VRs.app : ∀ {l l' : List Dm.D} {vs vs' : List V}, VRs g H h l vs → VRs g H h l' vs' → VRs g H h (l ++ l') (vs ++ vs')
  | [], _, _, _, x, y => by unfold VRs at x; subst x; exact y
  | d :: l, _, _, _, x, y => by
    unfold VRs at x
    obtain ⟨v, r, e, x1, x2⟩ := x
    subst e
    show VRs g H h (d :: (l ++ _)) (v :: (r ++ _))
    unfold VRs
    exact ⟨v, _, rfl, x1, x2.app y⟩
theorem VRs.get : ∀ {l : List Dm.D} {vs : List V} {i : Nat} {d : Dm.D}, VRs g H h l vs → l[i]? = some d → ∃ v, vs[i]? = some v ∧ VR g H h d v
  | [], _, _, _, _, e => by simp at e
  | c :: l, _, i, d, x, e => by
    unfold VRs at x
    obtain ⟨v, r, e1, x1, x2⟩ := x
    subst e1
    cases i with
    | zero => simp at e; subst e; exact ⟨v, by simp, x1⟩
    | succ i =>
      obtain ⟨u, h1, h2⟩ := x2.get (i := i) (d := d) (by simpa using e)
      exact ⟨u, by simpa using h1, h2⟩
theorem VRs.get' : ∀ {l : List Dm.D} {vs : List V} {i : Nat} {v : V}, VRs g H h l vs → vs[i]? = some v → ∃ d, l[i]? = some d ∧ VR g H h d v
  | [], _, _, _, x, e => by unfold VRs at x; subst x; simp at e
  | c :: l, _, i, d, x, e => by
    unfold VRs at x
    obtain ⟨v, r, e1, x1, x2⟩ := x
    subst e1
    cases i with
    | zero => simp at e; subst e; exact ⟨c, by simp, x1⟩
    | succ i =>
      obtain ⟨u, h1, h2⟩ := x2.get' (i := i) (v := d) (by simpa using e)
      exact ⟨u, by simpa using h1, h2⟩
theorem VRs.take : ∀ {l : List Dm.D} {vs : List V} (n : Nat), VRs g H h l vs → VRs g H h (l.take n) (vs.take n)
  | [], _, n, x => by unfold VRs at x; subst x; simp [VRs]
  | c :: l, _, 0, x => by simp [VRs]
  | c :: l, _, n + 1, x => by
    unfold VRs at x
    obtain ⟨v, r, e1, x1, x2⟩ := x
    subst e1
    rw [List.take_succ_cons, List.take_succ_cons]
    unfold VRs
    exact ⟨v, _, rfl, x1, x2.take n⟩
theorem VRs.drop : ∀ {l : List Dm.D} {vs : List V} (n : Nat), VRs g H h l vs → VRs g H h (l.drop n) (vs.drop n)
  | [], _, n, x => by unfold VRs at x; subst x; simp [VRs]
  | c :: l, _, 0, x => x
  | c :: l, _, n + 1, x => by
    unfold VRs at x
    obtain ⟨v, r, e1, x1, x2⟩ := x
    subst e1
    rw [List.drop_succ_cons, List.drop_succ_cons]
    exact x2.drop n
theorem VRs.cons {d : Dm.D} {v : V} {l : List Dm.D} {vs : List V} (a : VR g H h d v) (b : VRs g H h l vs) : VRs g H h (d :: l) (v :: vs) := by
  unfold VRs; exact ⟨v, vs, rfl, a, b⟩
theorem VRs.nil : VRs g H h [] [] := by unfold VRs; rfl
theorem VRs.set : ∀ {l : List Dm.D} {vs : List V} {d : Dm.D} {v : V} (i : Nat), VR g H h d v → VRs g H h l vs → VRs g H h (l.set i d) (vs.set i v)
  | [], _, _, _, i, _, x => by unfold VRs at x; subst x; simp [VRs]
  | c :: l, _, _, _, 0, y, x => by
    unfold VRs at x
    obtain ⟨u, r, e1, x1, x2⟩ := x
    subst e1
    exact .cons y x2
  | c :: l, _, _, _, i + 1, y, x => by
    unfold VRs at x
    obtain ⟨u, r, e1, x1, x2⟩ := x
    subst e1
    exact .cons x1 (x2.set i y)
theorem VRs.rep (n : Nat) {l : List Dm.D} {vs : List V} (x : VRs g H h l vs) : VRs g H h (List.replicate n l).flatten (List.replicate n vs).flatten := by
  induction n with
  | zero => exact .nil
  | succ n ih => rw [List.replicate_succ, List.replicate_succ, List.flatten_cons, List.flatten_cons]; exact x.app ih
/-- a sequence's place -/
theorem sq_at (r : HR g H h) {d : Dm.D} {v : V} {l : List Dm.D} (x : VR g H h d v) (e : Dm.sq h d = some l) : ∃ a vs, v = .ref a ∧ (SqL g.K H a vs ∨ SqT g.K H a vs) ∧ l.length ≤ sizeLine ∧ VRs g H h l vs := by
  cases d with
  | tup m =>
    have : m = l := by simpa [Dm.sq] using e
    subst this
    unfold VR at x
    obtain ⟨a, vs, e1, _, e2, e3, e4⟩ := x
    exact ⟨a, vs, e1, .inr e2.sqT, e3, e4⟩
  | lst m =>
    have : m = l := by simpa [Dm.sq] using e
    subst this
    unfold VR at x
    obtain ⟨a, vs, e1, _, e2, e3, e4, e5⟩ := x
    exact ⟨a, vs, e1, .inl (.inl (.inl e2)), e4, e5⟩
  | scr m =>
    have : m = l := by simpa [Dm.sq] using e
    subst this
    unfold VR at x
    obtain ⟨a, vs, e1, e2, e4, e5⟩ := x
    exact ⟨a, vs, e1, .inl e2.sql, e4, e5⟩
  | ref a =>
    unfold VR at x
    subst x
    unfold Dm.sq at e
    cases q : h a with
    | none => simp [q] at e
    | some o =>
      cases o with
      | lst m =>
        have : m = l := by simpa [q] using e
        subst this
        obtain ⟨vs, e1, e2, e3⟩ := r a _ q
        exact ⟨a, vs, rfl, .inl (.inl (.inl e1)), e2, e3⟩
      | dct _ _ => simp [q] at e
      | ins _ _ => simp [q] at e
  | _ => simp [Dm.sq] at e
/-- a list's place: tracked, readable -/
theorem sqL_at (r : HR g H h) {d : Dm.D} {v : V} {l : List Dm.D} (x : VR g H h d v) (e : Dm.sqL h d = some l) : ∃ a vs, v = .ref a ∧ H a = some (.lst vs) ∧ l.length ≤ sizeLine ∧ VRs g H h l vs := by
  cases d with
  | lst m =>
    have : m = l := by simpa [Dm.sqL] using e
    subst this
    unfold VR at x
    obtain ⟨a, vs, e1, _, e2, e3, e4, e5⟩ := x
    exact ⟨a, vs, e1, e2, e4, e5⟩
  | ref a =>
    unfold VR at x
    subst x
    unfold Dm.sqL at e
    cases q : h a with
    | none => simp [q] at e
    | some o =>
      cases o with
      | lst m =>
        have : m = l := by simpa [q] using e
        subst this
        obtain ⟨vs, e1, e2, e3⟩ := r a _ q
        exact ⟨a, vs, rfl, e1, e2, e3⟩
      | dct _ _ => simp [q] at e
      | ins _ _ => simp [q] at e
  | _ => simp [Dm.sqL] at e
end
end Dr
end S_DCore
section S_DLift
set_option Elab.async false
set_option linter.all false
set_option maxRecDepth 100000
set_option maxHeartbeats 1000000
/-! DLift: what lifts a transformer; names, constants, operators, tests, arguments. -/
namespace Dr
open PySem PySem.Spec PyProof.Rows L2

/-- slots -/
def SR (g : Gd) (H : Hp) (h : Dm.Hd) : Dm.St → L2.St → Prop
  | [], σ => σ = []
  | none :: s, σ => ∃ o r, σ = o :: r ∧ SR g H h s r
  | some d :: s, σ => ∃ v r, σ = some v :: r ∧ VR g H h d v ∧ SR g H h s r
section
variable {g : Gd} {H H' : Hp} {h h' : Dm.Hd}
theorem SR.stp (r : HR g H h) (s : Stp h H h' H') : ∀ {l : Dm.St} {σ : L2.St}, SR g H h l σ → SR g H' h' l σ
  | [], _, x => by unfold SR at x ⊢; exact x
  | none :: l, _, x => by
    unfold SR at x ⊢
    obtain ⟨o, q, e, x2⟩ := x
    exact ⟨o, q, e, x2.stp r s⟩
  | some d :: l, _, x => by
    unfold SR at x ⊢
    obtain ⟨v, q, e, x1, x2⟩ := x
    exact ⟨v, q, e, VR.stp r s d v x1, x2.stp r s⟩
theorem SR.get : ∀ {l : Dm.St} {σ : L2.St} {i : Nat} {d : Dm.D}, SR g H h l σ → l[i]? = some (some d) → ∃ v, σ[i]? = some (some v) ∧ VR g H h d v
  | [], _, _, _, _, e => by simp at e
  | none :: l, _, i, d, x, e => by
    unfold SR at x
    obtain ⟨o, q, e1, x2⟩ := x
    subst e1
    cases i with
    | zero => simp at e
    | succ i =>
      obtain ⟨v, h1, h2⟩ := x2.get (i := i) (d := d) (by simpa using e)
      exact ⟨v, by simpa using h1, h2⟩
  | some c :: l, _, i, d, x, e => by
    unfold SR at x
    obtain ⟨v, q, e1, x1, x2⟩ := x
    subst e1
    cases i with
    | zero => simp at e; subst e; exact ⟨v, by simp, x1⟩
    | succ i =>
      obtain ⟨v, h1, h2⟩ := x2.get (i := i) (d := d) (by simpa using e)
      exact ⟨v, by simpa using h1, h2⟩
theorem SR.set : ∀ {l : Dm.St} {σ : L2.St} (i : Nat) {d : Dm.D} {v : V}, SR g H h l σ → VR g H h d v → SR g H h (l.set i (some d)) (σ.set i (some v))
  | [], _, _, _, _, x, _ => by unfold SR at x; subst x; simp [SR]
  | none :: l, _, i, d, v, x, y => by
    unfold SR at x
    obtain ⟨o, q, e1, x2⟩ := x
    subst e1
    cases i with
    | zero => rw [List.set_cons_zero, List.set_cons_zero]; unfold SR; exact ⟨v, q, rfl, y, x2⟩
    | succ i => rw [List.set_cons_succ, List.set_cons_succ]; unfold SR; exact ⟨o, _, rfl, x2.set i y⟩
  | some c :: l, _, i, d, v, x, y => by
    unfold SR at x
    obtain ⟨u, q, e1, x1, x2⟩ := x
    subst e1
    cases i with
    | zero => rw [List.set_cons_zero, List.set_cons_zero]; unfold SR; exact ⟨v, q, rfl, y, x2⟩
    | succ i => rw [List.set_cons_succ, List.set_cons_succ]; unfold SR; exact ⟨u, _, rfl, x1, x2.set i y⟩
theorem SR.unset : ∀ {l : Dm.St} {σ : L2.St} (i : Nat), SR g H h l σ → SR g H h (l.set i none) (σ.set i none)
  | [], _, _, x => by unfold SR at x; subst x; simp [SR]
  | none :: l, _, i, x => by
    unfold SR at x
    obtain ⟨o, q, e1, x2⟩ := x
    subst e1
    cases i with
    | zero => rw [List.set_cons_zero, List.set_cons_zero]; unfold SR; exact ⟨none, q, rfl, x2⟩
    | succ i => rw [List.set_cons_succ, List.set_cons_succ]; unfold SR; exact ⟨o, _, rfl, x2.unset i⟩
  | some c :: l, _, i, x => by
    unfold SR at x
    obtain ⟨u, q, e1, x1, x2⟩ := x
    subst e1
    cases i with
    | zero => rw [List.set_cons_zero, List.set_cons_zero]; unfold SR; exact ⟨none, q, rfl, x2⟩
    | succ i => rw [List.set_cons_succ, List.set_cons_succ]; unfold SR; exact ⟨u, _, rfl, x1, x2.unset i⟩
theorem SR.wipe {l : Dm.St} {σ : L2.St} (x : SR g H h l σ) : ∀ vs : List Nat, SR g H h (Dm.wipe l vs) (L2.wipe σ vs)
  | [] => x
  | v :: vs => (x.wipe vs).unset v
/-- a slot's value put for another that stands at the same place -/
theorem SR.same : ∀ {l : Dm.St} {σ : L2.St} (i : Nat) {d : Dm.D} {v : V}, SR g H h l σ → σ[i]? = some (some v) → VR g H h d v → SR g H h (l.set i (some d)) σ
  | [], _, _, _, _, x, _, _ => by unfold SR at x; subst x; simp [SR]
  | none :: l, _, i, d, v, x, e, y => by
    unfold SR at x
    obtain ⟨o, q, e1, x2⟩ := x
    subst e1
    cases i with
    | zero =>
      simp at e; subst e
      rw [List.set_cons_zero]; unfold SR; exact ⟨v, q, rfl, y, x2⟩
    | succ i => rw [List.set_cons_succ]; unfold SR; exact ⟨o, _, rfl, x2.same i (by simpa using e) y⟩
  | some c :: l, _, i, d, v, x, e, y => by
    unfold SR at x
    obtain ⟨u, q, e1, x1, x2⟩ := x
    subst e1
    cases i with
    | zero =>
      simp at e; subst e
      rw [List.set_cons_zero]; unfold SR; exact ⟨u, q, rfl, y, x2⟩
    | succ i => rw [List.set_cons_succ]; unfold SR; exact ⟨u, _, rfl, x1, x2.same i (by simpa using e) y⟩
theorem SR.start {n : Nat} {N : List Str} (e : N.length = n) : ∀ {ds : List Dm.D} {vs : List V}, VRs g H h ds vs → SR g H h (Dm.dstart n ds) (start N vs) := by
  intro ds vs x
  have hl := x.len
  unfold Dm.dstart L2.start
  rw [hl, e]
  clear hl
  have none_ : ∀ k : Nat, SR g H h (List.replicate k none) (List.replicate k none) := by
    intro k
    induction k with
    | zero => simp [SR]
    | succ k ih => rw [List.replicate_succ, List.replicate_succ]; unfold SR; exact ⟨_, _, rfl, ih⟩
  generalize n - ds.length = k
  induction ds generalizing vs with
  | nil => unfold VRs at x; subst x; exact none_ k
  | cons d l ih =>
    unfold VRs at x
    obtain ⟨v, r, e1, x1, x2⟩ := x
    subst e1
    rw [List.map_cons, List.map_cons, List.cons_append, List.cons_append]
    unfold SR
    exact ⟨v, _, rfl, x1, ih x2⟩
end

/-- what may be wished of exceptions -/
structure Acc where
  ok : Dm.Hd → Hp → L2.St → Dm.XP → Prop
  stp : ∀ {h H h' H' σ E}, ok h H σ E → Stp h H h' H' → ok h' H' σ E
  mono : ∀ {h H σ} {E E' : Dm.XP}, ok h H σ E → (∀ e z, E' e z → E e z) → ok h H σ E'
/-- none is let out -/
def acc0 : Acc := ⟨fun _ _ _ E => ∀ e h', ¬ E e h', fun x _ => x, fun x m e h' q => x e h' (m e h' q)⟩

/-- the end of an expression -/
def EndE (g : Gd) (h : Dm.Hd) (H : Hp) (P : Dm.QP) (Q : VK) : Prop := ∀ d h' v H', P d h' → Stp h H h' H' → HR g H' h' → VR g H' h' d v → Q v H'
def LE (g : Gd) (ac : Acc) (t : Dm.TE) : L2.TE := fun σ H Q => ∃ s h E P, SR g H h s σ ∧ HR g H h ∧ ac.ok h H σ E ∧ t s h E P ∧ EndE g h H P Q
def LT (g : Gd) (ac : Acc) (t : Dm.TT) : L2.TT := fun σ H Q => ∃ s h E P, SR g H h s σ ∧ HR g H h ∧ ac.ok h H σ E ∧ t s h E P ∧ ∀ b h' H', P b h' → Stp h H h' H' → HR g H' h' → Q b H'
def LA (g : Gd) (ac : Acc) (t : Dm.TA) : L2.TA := fun σ H Q => ∃ s h E P, SR g H h s σ ∧ HR g H h ∧ ac.ok h H σ E ∧ t s h E P ∧ ∀ ds h' vs H', P ds h' → Stp h H h' H' → HR g H' h' → VRs g H' h' ds vs → Q vs H'
def LO (g : Gd) (o : Dm.D → Dm.D → Dm.Hd → Dm.QP → Prop) : R2 := fun x y H Q => ∃ d e h P, VR g H h d x ∧ VR g H h e y ∧ HR g H h ∧ o d e h P ∧ EndE g h H P Q
def LU (g : Gd) (o : Dm.D → Dm.Hd → Dm.QP → Prop) : V → Hp → VK → Prop := fun x H Q => ∃ d h P, VR g H h d x ∧ HR g H h ∧ o d h P ∧ EndE g h H P Q
def LB (g : Gd) (r : List Dm.D → Dm.Hd → Dm.QP → Prop) : List V → Hp → VK → Prop := fun vs H Q => ∃ ds h P, VRs g H h ds vs ∧ HR g H h ∧ r ds h P ∧ EndE g h H P Q
def LM (g : Gd) (r : Dm.D → List Dm.D → Dm.Hd → Dm.QP → Prop) : V → List V → Hp → VK → Prop := fun x vs H Q => ∃ d ds h P, VR g H h d x ∧ VRs g H h ds vs ∧ HR g H h ∧ r d ds h P ∧ EndE g h H P Q
theorem EndE.stp {g : Gd} {h h1 : Dm.Hd} {H H1 : Hp} {P : Dm.QP} {Q : VK} (e : EndE g h H P Q) (s : Stp h H h1 H1) : EndE g h1 H1 P Q := fun d h' v H' p s' r x => e d h' v H' p (s.trans s') r x
/-- a new frozen list at p -/
theorem EndE.lst {g : Gd} {h : Dm.Hd} {H : Hp} {P : Dm.QP} {Q : VK} (e : EndE g h H P Q) (r : HR g H h) {l : List Dm.D} {vs : List V} (q : P (.lst l) h) (x : VRs g H h l vs) (hl : l.length ≤ sizeLine) {p : Addr} (n : H p = none) :
    Q (.ref p) (upd H p (.lst vs)) := by
  refine e _ _ _ _ q (Stp.new n) (r.new n) ?_
  unfold VR
  exact ⟨p, vs, rfl, r.nh n, upd_same, r.off n, hl, VRs.stp r (Stp.new n) l vs x⟩
/-- a new tuple -/
theorem EndE.tup {g : Gd} {h : Dm.Hd} {H : Hp} {P : Dm.QP} {Q : VK} (e : EndE g h H P Q) (r : HR g H h) {l : List Dm.D} {vs : List V} (q : P (.tup l) h) (x : VRs g H h l vs) (hl : l.length ≤ sizeLine) {p : Addr} (n : H p = none) :
    Q (.ref p) (upd H p (.tup vs)) := by
  refine e _ _ _ _ q (Stp.new n) (r.new n) ?_
  unfold VR
  exact ⟨p, vs, rfl, r.nh n, .inl upd_same, hl, VRs.stp r (Stp.new n) l vs x⟩
/-- a new list of the heap -/
theorem EndE.lstH {g : Gd} {h : Dm.Hd} {H : Hp} {P : Dm.QP} {Q : VK} (e : EndE g h H P Q) (r : HR g H h) {l : List Dm.D} {vs : List V} (q : ∀ p, h p = none → P (.ref p) (Dm.up h p (.lst l))) (x : VRs g H h l vs) (hl : l.length ≤ sizeLine) {p : Addr} (n : H p = none) :
    Q (.ref p) (upd H p (.lst vs)) := by
  refine e _ _ _ _ (q p (r.off n)) (Stp.newUp n) (r.newUp n ⟨vs, upd_same, hl, VRs.stp r (Stp.newUp n) l vs x⟩) ?_
  unfold VR
  rfl
theorem lim_size : Dm.lim ≤ sizeLine := by rw [sizeLine_eq]; decide

section
variable {X : Cx} {cm : CM} {ac : Acc} {hidn : Hdn}
abbrev gOf (X : Cx) (cm : CM) (hidn : Hdn) : Gd := ⟨X.K, X.prog, X.w, cm, hidn⟩
theorem _root_.L2.PE.imp {e : Expr} {t t' : L2.TE} (p : PE X e t) (h : ∀ σ H Q, t' σ H Q → t σ H Q) : PE X e t' := ⟨fun pins s σ H Q I q => p.run pins s σ H Q I (h _ _ _ q)⟩
theorem _root_.L2.PT.imp {e : Expr} {t t' : L2.TT} (p : PT X e t) (h : ∀ σ H Q, t' σ H Q → t σ H Q) : PT X e t' := ⟨fun pins s σ H Q I q => p.run pins s σ H Q I (h _ _ _ q)⟩
theorem _root_.L2.PW.imp {e : Expr} {t t' : L2.TT} (p : PW X e t) (h : ∀ σ H Q, t' σ H Q → t σ H Q) : PW X e t' := ⟨fun wh pins s σ H Q I q => p.run wh pins s σ H Q I (h _ _ _ q)⟩
theorem _root_.L2.PA.imp {e : List Expr} {t t' : L2.TA} (p : PA X e t) (h : ∀ σ H Q, t' σ H Q → t σ H Q) : PA X e t' := ⟨fun pos pins s σ H Q I q => p.run pos pins s σ H Q I (h _ _ _ q)⟩
theorem _root_.L2.PS.imp {e : Stmt} {t t' : L2.TS} (p : PS X e t) (h : ∀ D σ H, t' D σ H → t D σ H) : PS X e t' := ⟨fun pins s σ H Q I q => p.run pins s σ H Q I (h _ _ _ q)⟩
theorem _root_.L2.PSs.imp {e : List Stmt} {t t' : L2.TS} (p : PSs X e t) (h : ∀ D σ H, t' D σ H → t D σ H) : PSs X e t' := ⟨fun pins s σ H Q I q => p.run pins s σ H Q I (h _ _ _ q)⟩

/-! ### names, constants -/
theorem de_var {e : Expr} {i : Nat} (p : PE X e (L2.tVar i)) : PE X e (LE (gOf X cm hidn) ac (Dm.eVar i)) := p.imp fun σ H Q ⟨s, h, E, P, sr, hr, _, ⟨d, e1, q⟩, k⟩ => by
  obtain ⟨v, e2, x⟩ := sr.get e1
  exact ⟨v, e2, k d h v H q (Stp.refl _ _) hr x⟩
theorem de_c {e : Expr} {d : Dm.D} {v : V} (p : PE X e (L2.tC v)) (x : ∀ H h, VR (gOf X cm hidn) H h d v) : PE X e (LE (gOf X cm hidn) ac (Dm.eC d)) := p.imp fun σ H Q ⟨s, h, E, P, sr, hr, _, q, k⟩ => k d h v H q (Stp.refl _ _) hr (x H h)
theorem de_int {i j pos} : PE X (.Constant (.int i) j pos) (LE (gOf X cm hidn) ac (Dm.eC (.int i))) := de_c pe_int fun _ _ => by unfold VR; rfl
theorem de_bl {i j pos} : PE X (.Constant (.bool i) j pos) (LE (gOf X cm hidn) ac (Dm.eC (.bl i))) := de_c pe_bl fun _ _ => by unfold VR; rfl
theorem de_non {j pos} : PE X (.Constant .none j pos) (LE (gOf X cm hidn) ac (Dm.eC .non)) := de_c pe_non fun _ _ => by unfold VR; rfl
theorem de_str {x j pos} : PE X (.Constant (.str x) j pos) (LE (gOf X cm hidn) ac (Dm.eC (.str x))) := de_c pe_str fun _ _ => by unfold VR; rfl
/-- a module's int -/
theorem de_gint {x : Str} {i : Int} {pos : Pos} (hm : ∃ t, X.mg x = some (.int i t)) (hg : Gl X x := by rfl) (hd : (x == ("__debug__" : Str)) = false := by decide) : PE X (.Name x pos) (LE (gOf X cm hidn) ac (Dm.eC (.int i))) := by
  obtain ⟨t, hm⟩ := hm
  exact de_c (v := .int i) (pe_glob hg hm ⟨t, rfl⟩ hd) fun _ _ => by unfold VR; rfl
/-- a built-in type's name -/
theorem de_bty {x : Str} {n : String} {pos : Pos} (hm : X.mg x = none) (hv : bootBuiltins x = some (.type n)) (hg : Gl X x := by rfl) (hn : x ≠ "__name__" := by decide) (hd : (x == ("__debug__" : Str)) = false := by decide) : PE X (.Name x pos) (LE (gOf X cm hidn) ac (Dm.eC (.ty n))) :=
  de_c (v := .ty n) (pe_bltn hg hm hv rfl hn hd) fun _ _ => by unfold VR; rfl

/-! ### operators -/
theorem LE.bin {t u : Dm.TE} {o : Dm.D → Dm.D → Dm.Hd → Dm.QP → Prop} {σ : L2.St} {H : Hp} {Q : VK} (q : LE (gOf X cm hidn) ac (Dm.eBin o t u) σ H Q) : LE (gOf X cm hidn) ac t σ H fun x H1 => LE (gOf X cm hidn) ac u σ H1 fun y H2 => LO (gOf X cm hidn) o x y H2 Q := by
  obtain ⟨s, h, E, P, sr, hr, ha, q, k⟩ := q
  refine ⟨s, h, E, _, sr, hr, ha, q, fun d h1 v H1 q1 s1 r1 x1 => ⟨s, h1, E, _, sr.stp hr s1, r1, ac.stp ha s1, q1, fun e h2 u H2 q2 s2 r2 x2 => ⟨d, e, h2, P, VR.stp r1 s2 d v x1, x2, r2, q2, EndE.stp k (s1.trans s2)⟩⟩⟩
theorem de_bin {a b : Expr} {op : Operator} {pos : Pos} {t u : Dm.TE} {o : Dm.D → Dm.D → Dm.Hd → Dm.QP → Prop} (ho : OpR X (binaryOp op) (LO (gOf X cm hidn) o)) (ha : PE X a (LE (gOf X cm hidn) ac t)) (hb : PE X b (LE (gOf X cm hidn) ac u)) :
    PE X (.BinOp a op b pos) (LE (gOf X cm hidn) ac (Dm.eBin o t u)) := (pe_op ho ha hb).imp fun _ _ _ q => q.bin
theorem de_cmp {a b : Expr} {op : CmpOp} {pos : Pos} {t u : Dm.TE} {o : Dm.D → Dm.D → Dm.Hd → Dm.QP → Prop} (ho : OpR X (compareOp op) (LO (gOf X cm hidn) o)) (ha : PE X a (LE (gOf X cm hidn) ac t)) (hb : PE X b (LE (gOf X cm hidn) ac u)) (hm : behindInMarks op b = false) :
    PE X (.Compare a [op] [b] pos) (LE (gOf X cm hidn) ac (Dm.eBin o t u)) := (pe_cmpR ho ha hb hm).imp fun _ _ _ q => q.bin
theorem de_un {a : Expr} {op : UnaryOp} {pos : Pos} {t : Dm.TE} {o : Dm.D → Dm.Hd → Dm.QP → Prop} (ho : UnR X (unaryOp op) (LU (gOf X cm hidn) o)) (ha : PE X a (LE (gOf X cm hidn) ac t)) :
    PE X (.UnaryOp op a pos) (LE (gOf X cm hidn) ac (Dm.eUn o t)) := (pe_un ho ha).imp fun _ _ _ ⟨s, h, E, P, sr, hr, hc, q, k⟩ => ⟨s, h, E, _, sr, hr, hc, q, fun d h1 v H1 q1 s1 r1 x1 => ⟨d, h1, P, x1, r1, q1, EndE.stp k s1⟩⟩
theorem de_chain {a b c : Expr} {op op' : CmpOp} {pos : Pos} {t u w : Dm.TE} {o o' : Dm.D → Dm.D → Dm.Hd → Dm.QP → Prop} (ho : OpR X (compareOp op) (LO (gOf X cm hidn) o)) (ho' : OpR X (compareOp op') (LO (gOf X cm hidn) o')) (ha : PE X a (LE (gOf X cm hidn) ac t)) (hb : PE X b (LE (gOf X cm hidn) ac u)) (hc : PE X c (LE (gOf X cm hidn) ac w)) (hm : lastMarks [op, op'] [b, c] = false) :
    PE X (.Compare a [op, op'] [b, c] pos) (LE (gOf X cm hidn) ac (Dm.eChain o o' t u w)) := (pe_chain ho ho' ha hb hc hm).imp fun σ H Q ⟨s, h, E, P, sr, hr, hac, q, k⟩ => by
  refine ⟨s, h, E, _, sr, hr, hac, q, fun d h1 v H1 q1 s1 r1 x1 => ⟨s, h1, E, _, sr.stp hr s1, r1, ac.stp hac s1, q1, fun e h2 u H2 q2 s2 r2 x2 => ⟨d, e, h2, _, VR.stp r1 s2 d v x1, x2, r2, q2, fun z h3 zv H3 q3 s3 r3 x3 => ?_⟩⟩⟩
  obtain ⟨b, ez, q3⟩ := q3
  subst ez
  unfold VR at x3
  subst x3
  refine ⟨b, rfl, ?_⟩
  cases b with
  | true =>
    rw [if_pos rfl] at q3 ⊢
    have s03 := (s1.trans s2).trans s3
    exact ⟨s, h3, E, _, sr.stp hr s03, r3, ac.stp hac s03, q3, fun f h4 fv H4 q4 s4 r4 x4 => ⟨e, f, h4, P, VR.stp r3 s4 e u (VR.stp r2 s3 e u x2), x4, r4, q4, EndE.stp k (s03.trans s4)⟩⟩
  | false =>
    rw [if_neg Bool.false_ne_true] at q3 ⊢
    exact k _ _ _ _ q3 ((s1.trans s2).trans s3) r3 (by unfold VR; rfl)

/-! ### tests -/
theorem dt_val {e : Expr} {t : Dm.TE} (p : PE X e (LE (gOf X cm hidn) ac t)) (he : ∀ whole, isTrue e X.env whole = (do let v ← whole; standAt e.pos; holding [v] (truthy v)) := by intro _; rfl) : PT X e (LT (gOf X cm hidn) ac (Dm.tE t)) :=
  (pt_val p he).imp fun σ H Q ⟨s, h, E, P, sr, hr, hac, q, k⟩ => ⟨s, h, E, _, sr, hr, hac, q, fun d h1 v H1 ⟨b, e1, q1⟩ s1 r1 x1 => ⟨b, by subst e1; unfold VR at x1; exact x1, k b h1 H1 q1 s1 r1⟩⟩
theorem dt_cmp {a b : Expr} {op : CmpOp} {pos : Pos} {t u : Dm.TE} {o : Dm.D → Dm.D → Dm.Hd → Dm.QP → Prop} (ho : OpR X (compareOp op) (LO (gOf X cm hidn) o)) (ha : PE X a (LE (gOf X cm hidn) ac t)) (hb : PE X b (LE (gOf X cm hidn) ac u)) (hm : behindInMarks op b = false) :
    PT X (.Compare a [op] [b] pos) (LT (gOf X cm hidn) ac (Dm.tE (Dm.eBin o t u))) :=
  (pt_cmpR ho ha hb hm).imp fun σ H Q q => by
    obtain ⟨s, h, E, P, sr, hr, hac, q, k⟩ := q
    show LE (gOf X cm hidn) ac t σ H _
    refine ⟨s, h, E, _, sr, hr, hac, q, fun d h1 v H1 q1 s1 r1 x1 => ⟨s, h1, E, _, sr.stp hr s1, r1, ac.stp hac s1, q1, fun e h2 u H2 q2 s2 r2 x2 => ⟨d, e, h2, _, VR.stp r1 s2 d v x1, x2, r2, q2, fun z h3 zv H3 q3 s3 r3 x3 => ?_⟩⟩⟩
    obtain ⟨b, ez, q3⟩ := q3
    subst ez
    unfold VR at x3
    exact ⟨b, x3, k b h3 H3 q3 ((s1.trans s2).trans s3) r3⟩
theorem LT.bind {t : Dm.TT} {f : Bool → Dm.Hd → Prop} {σ : L2.St} {H : Hp} {s : Dm.St} {h : Dm.Hd} {E : Dm.XP} {Q : Bool → Hp → Prop} (sr : SR (gOf X cm hidn) H h s σ) (hr : HR (gOf X cm hidn) H h) (hac : ac.ok h H σ E) (q : t s h E f)
    (k : ∀ b h' H', f b h' → Stp h H h' H' → HR (gOf X cm hidn) H' h' → Q b H') : LT (gOf X cm hidn) ac t σ H Q := ⟨s, h, E, f, sr, hr, hac, q, k⟩
theorem dw_and {a b : Expr} {rest : List Expr} {pos : Pos} {t u : Dm.TT} (ha : PT X a (LT (gOf X cm hidn) ac t)) (hb : PW X (.BoolOp .And (b :: rest) pos) (LT (gOf X cm hidn) ac u)) : PW X (.BoolOp .And (a :: b :: rest) pos) (LT (gOf X cm hidn) ac (Dm.tAnd t u)) :=
  (pw_and ha hb).imp fun σ H Q ⟨s, h, E, P, sr, hr, hac, q, k⟩ => by
    refine LT.bind sr hr hac q fun b h1 H1 q1 s1 r1 => ?_
    cases b with
    | true => rw [if_pos rfl] at q1 ⊢; exact LT.bind (sr.stp hr s1) r1 (ac.stp hac s1) q1 fun c h2 H2 q2 s2 r2 => k c h2 H2 q2 (s1.trans s2) r2
    | false => rw [if_neg Bool.false_ne_true] at q1 ⊢; exact k _ _ _ q1 s1 r1
theorem dw_or {a b : Expr} {rest : List Expr} {pos : Pos} {t u : Dm.TT} (ha : PT X a (LT (gOf X cm hidn) ac t)) (hb : PW X (.BoolOp .Or (b :: rest) pos) (LT (gOf X cm hidn) ac u)) : PW X (.BoolOp .Or (a :: b :: rest) pos) (LT (gOf X cm hidn) ac (Dm.tOr t u)) :=
  (pw_or ha hb).imp fun σ H Q ⟨s, h, E, P, sr, hr, hac, q, k⟩ => by
    refine LT.bind sr hr hac q fun b h1 H1 q1 s1 r1 => ?_
    cases b with
    | true => rw [if_pos rfl] at q1 ⊢; exact k _ _ _ q1 s1 r1
    | false => rw [if_neg Bool.false_ne_true] at q1 ⊢; exact LT.bind (sr.stp hr s1) r1 (ac.stp hac s1) q1 fun c h2 H2 q2 s2 r2 => k c h2 H2 q2 (s1.trans s2) r2
theorem dt_not {a : Expr} {pos : Pos} {t : Dm.TT} (ha : PT X a (LT (gOf X cm hidn) ac t)) : PT X (.UnaryOp .Not a pos) (LT (gOf X cm hidn) ac (Dm.tNot t)) :=
  (pt_not ha).imp fun σ H Q ⟨s, h, E, P, sr, hr, hac, q, k⟩ => LT.bind sr hr hac q fun b h1 H1 q1 s1 r1 => k _ _ _ q1 s1 r1
theorem de_not {a : Expr} {pos : Pos} {t : Dm.TE} (ha : PE X a (LE (gOf X cm hidn) ac t)) : PE X (.UnaryOp .Not a pos) (LE (gOf X cm hidn) ac (Dm.eNot t)) :=
  (pe_not ha).imp fun σ H Q ⟨s, h, E, P, sr, hr, hac, q, k⟩ => ⟨s, h, E, _, sr, hr, hac, q, fun d h1 v H1 ⟨b, e1, q1⟩ s1 r1 x1 => ⟨b, by subst e1; unfold VR at x1; exact x1, k _ h1 _ H1 q1 s1 r1 (by unfold VR; rfl)⟩⟩
theorem de_and {a b : Expr} {rest : List Expr} {pos : Pos} {t u : Dm.TE} (ha : PE X a (LE (gOf X cm hidn) ac t)) (hb : PE X (.BoolOp .And (b :: rest) pos) (LE (gOf X cm hidn) ac u)) : PE X (.BoolOp .And (a :: b :: rest) pos) (LE (gOf X cm hidn) ac (Dm.eAnd t u)) :=
  (pe_and ha hb).imp fun σ H Q ⟨s, h, E, P, sr, hr, hac, q, k⟩ => ⟨s, h, E, _, sr, hr, hac, q, fun d h1 v H1 ⟨b, e1, q1⟩ s1 r1 x1 => ⟨b, by subst e1; unfold VR at x1; exact x1, by
    cases b with
    | true => rw [if_pos rfl] at q1 ⊢; exact ⟨s, h1, E, _, sr.stp hr s1, r1, ac.stp hac s1, q1, EndE.stp k s1⟩
    | false => rw [if_neg Bool.false_ne_true] at q1 ⊢; exact k _ _ _ _ q1 s1 r1 (by unfold VR; rfl)⟩⟩
theorem de_or {a b : Expr} {rest : List Expr} {pos : Pos} {t u : Dm.TE} (ha : PE X a (LE (gOf X cm hidn) ac t)) (hb : PE X (.BoolOp .Or (b :: rest) pos) (LE (gOf X cm hidn) ac u)) : PE X (.BoolOp .Or (a :: b :: rest) pos) (LE (gOf X cm hidn) ac (Dm.eOr t u)) :=
  (pe_or ha hb).imp fun σ H Q ⟨s, h, E, P, sr, hr, hac, q, k⟩ => ⟨s, h, E, _, sr, hr, hac, q, fun d h1 v H1 ⟨b, e1, q1⟩ s1 r1 x1 => ⟨b, by subst e1; unfold VR at x1; exact x1, by
    cases b with
    | true => rw [if_pos rfl] at q1 ⊢; exact k _ _ _ _ q1 s1 r1 (by unfold VR; rfl)
    | false => rw [if_neg Bool.false_ne_true] at q1 ⊢; exact ⟨s, h1, E, _, sr.stp hr s1, r1, ac.stp hac s1, q1, EndE.stp k s1⟩⟩⟩
theorem de_if {c a b : Expr} {pos : Pos} {tc : Dm.TT} {t u : Dm.TE} (hc : PT X c (LT (gOf X cm hidn) ac tc)) (ha : PE X a (LE (gOf X cm hidn) ac t)) (hb : PE X b (LE (gOf X cm hidn) ac u)) : PE X (.IfExp c a b pos) (LE (gOf X cm hidn) ac (Dm.eIf tc t u)) :=
  (pe_ifExp hc ha hb).imp fun σ H Q ⟨s, h, E, P, sr, hr, hac, q, k⟩ => by
    refine LT.bind sr hr hac q fun b h1 H1 q1 s1 r1 => ?_
    cases b with
    | true => rw [if_pos rfl] at q1 ⊢; exact ⟨s, h1, E, _, sr.stp hr s1, r1, ac.stp hac s1, q1, EndE.stp k s1⟩
    | false => rw [if_neg Bool.false_ne_true] at q1 ⊢; exact ⟨s, h1, E, _, sr.stp hr s1, r1, ac.stp hac s1, q1, EndE.stp k s1⟩

/-! ### arguments, displays -/
theorem da_nil : PA X [] (LA (gOf X cm hidn) ac Dm.aNil) := pa_nil.imp fun σ H Q ⟨s, h, E, P, sr, hr, hac, q, k⟩ => k [] h [] H q (Stp.refl _ _) hr .nil
theorem LA.cons {t : Dm.TE} {u : Dm.TA} {σ : L2.St} {H : Hp} {Q : List V → Hp → Prop} (q : LA (gOf X cm hidn) ac (Dm.aCons t u) σ H Q) : LE (gOf X cm hidn) ac t σ H fun x H1 => LA (gOf X cm hidn) ac u σ H1 fun xs H2 => Q (x :: xs) H2 := by
  obtain ⟨s, h, E, P, sr, hr, hac, q, k⟩ := q
  exact ⟨s, h, E, _, sr, hr, hac, q, fun d h1 v H1 q1 s1 r1 x1 => ⟨s, h1, E, _, sr.stp hr s1, r1, ac.stp hac s1, q1, fun ds h2 vs H2 q2 s2 r2 x2 => k _ _ _ _ q2 (s1.trans s2) r2 (.cons (VR.stp r1 s2 d v x1) x2)⟩⟩
theorem da_cons {e : Expr} {es : List Expr} {t : Dm.TE} {u : Dm.TA} (ha : PE X e (LE (gOf X cm hidn) ac t)) (hr : PA X es (LA (gOf X cm hidn) ac u)) (hs : starEach (e :: es) X.env = (false, eval e X.env) :: starEach es X.env := by rfl) : PA X (e :: es) (LA (gOf X cm hidn) ac (Dm.aCons t u)) := (pa_cons ha hr hs).imp fun _ _ _ q => LA.cons q
end
end Dr
end S_DLift
section S_DOps
set_option Elab.async false
set_option linter.all false
set_option maxRecDepth 100000
set_option maxHeartbeats 1000000
/-! DOps: operators by values. -/
namespace Dr
open PySem PySem.Spec PyProof.Rows L2

theorem vI {g : Gd} {H : Hp} {h : Dm.Hd} {i : Int} {v : V} (x : VR g H h (.int i) v) : v = .int i := by unfold VR at x; exact x
theorem vB {g : Gd} {H : Hp} {h : Dm.Hd} {i : Bool} {v : V} (x : VR g H h (.bl i) v) : v = .bl i := by unfold VR at x; exact x
theorem vS {g : Gd} {H : Hp} {h : Dm.Hd} {i : Str} {v : V} (x : VR g H h (.str i) v) : v = .str i := by unfold VR at x; exact x
theorem vN {g : Gd} {H : Hp} {h : Dm.Hd} {v : V} (x : VR g H h .non v) : v = .non := by unfold VR at x; exact x
theorem vR {g : Gd} {H : Hp} {h : Dm.Hd} {a : Nat} {v : V} (x : VR g H h (.ref a) v) : v = .ref a := by unfold VR at x; exact x
theorem vTy {g : Gd} {H : Hp} {h : Dm.Hd} {n : String} {v : V} (x : VR g H h (.ty n) v) : v = .ty n := by unfold VR at x; exact x
theorem vT {g : Gd} {H : Hp} {h : Dm.Hd} {l : List Dm.D} {v : V} (x : VR g H h (.tup l) v) : ∃ a vs, v = .ref a ∧ TupA H a vs ∧ l.length ≤ sizeLine ∧ VRs g H h l vs := by unfold VR at x; obtain ⟨a, vs, e1, _, e2⟩ := x; exact ⟨a, vs, e1, e2⟩
theorem vL {g : Gd} {H : Hp} {h : Dm.Hd} {l : List Dm.D} {v : V} (x : VR g H h (.lst l) v) : ∃ a vs, v = .ref a ∧ H a = some (.lst vs) ∧ h a = none ∧ l.length ≤ sizeLine ∧ VRs g H h l vs := by unfold VR at x; obtain ⟨a, vs, e1, _, e2⟩ := x; exact ⟨a, vs, e1, e2⟩
theorem xI {g : Gd} {H : Hp} {h : Dm.Hd} {i : Int} : VR g H h (.int i) (.int i) := by unfold VR; rfl
theorem xB {g : Gd} {H : Hp} {h : Dm.Hd} {i : Bool} : VR g H h (.bl i) (.bl i) := by unfold VR; rfl
theorem xS {g : Gd} {H : Hp} {h : Dm.Hd} {i : Str} : VR g H h (.str i) (.str i) := by unfold VR; rfl
theorem xN {g : Gd} {H : Hp} {h : Dm.Hd} : VR g H h .non .non := by unfold VR; rfl
theorem xR {g : Gd} {H : Hp} {h : Dm.Hd} {a : Nat} : VR g H h (.ref a) (.ref a) := by unfold VR; rfl
theorem EndE.here {g : Gd} {h : Dm.Hd} {H : Hp} {P : Dm.QP} {Q : VK} (e : EndE g h H P Q) (r : HR g H h) {d : Dm.D} {v : V} (q : P d h) (x : VR g H h d v) : Q v H := e d h v H q (Stp.refl _ _) r x
theorem T_of {K : PySem.W.Frag} {H : Hp} {a : Addr} {vs : List V} (e : TupA H a vs) : SqT K H a vs := e.sqT
theorem L_of {K : PySem.W.Frag} {H : Hp} {a : Addr} {vs : List V} (e : H a = some (.lst vs)) : SqL K H a vs := .inl (.inl e)

section
variable {X : Cx} {cm : CM} {hidn : Hdn}
theorem LO.cat {x y : V} {H : Hp} {Q : VK} {a b : Addr} {l m : List Dm.D} {vs us : List V} {h : Dm.Hd} {P : Dm.QP} (hr : HR (gOf X cm hidn) H h) (ha : H a = some (.lst vs)) (xa : VRs (gOf X cm hidn) H h l vs) (hb : H b = some (.lst us)) (xb : VRs (gOf X cm hidn) H h m us)
    (z : l.length + m.length ≤ Dm.lim) (q : P (.lst (l ++ m)) h) (k : EndE (gOf X cm hidn) h H P Q) (ex : x = .ref a) (ey : y = .ref b) : rCat x y H Q := by
  subst ex ey
  have hl := lim_size
  refine ⟨a, b, vs, us, rfl, rfl, ha, hb, by rw [xa.len, xb.len]; omega, fun p n => k.lst hr q (xa.app xb) (by rw [List.length_append]; omega) n⟩
theorem dop_add : OpR X (binaryOp .Add) (LO (gOf X cm hidn) Dm.oAdd) := by
  intro pins s σ H x y v u Q I rx ry ⟨d, e, h, P, xd, xe, hr, q, k⟩
  cases d with
  | int i =>
    cases e with
    | int j =>
      obtain rfl := vI xd
      obtain rfl := vI xe
      exact op_add pins s σ H _ _ v u Q I rx ry ⟨i, j, rfl, rfl, k.here hr q xI⟩
    | _ => exact absurd q (by simp [Dm.oAdd])
  | str i =>
    cases e with
    | str j =>
      obtain rfl := vS xd
      obtain rfl := vS xe
      obtain ⟨z, q⟩ := q
      exact op_add_str pins s σ H _ _ v u Q I rx ry ⟨i, j, rfl, rfl, Nat.le_trans z lim_size, k.here hr q xS⟩
    | _ => exact absurd q (by simp [Dm.oAdd])
  | tup l =>
    cases e with
    | tup m =>
      obtain ⟨a, vs, rfl, ha, la, xa⟩ := vT xd
      obtain ⟨b, us, rfl, hb, lb, xb⟩ := vT xe
      obtain ⟨z, q⟩ := q
      have hz : l.length + m.length ≤ sizeLine := Nat.le_trans z lim_size
      refine op_catA pins s σ H _ _ v u Q I rx ry ⟨a, b, vs, us, rfl, rfl, T_of ha, T_of hb, by rw [xa.len, xb.len]; exact hz, fun e0 => ?_, fun _ e0 => ?_, fun _ _ p n => k.tup hr q (xa.app xb) (by rw [List.length_append]; exact hz) n⟩
      · have : l = [] := List.eq_nil_of_length_eq_zero (by rw [← xa.len, e0]; rfl)
        subst this
        exact k.here hr q xe
      · have : m = [] := List.eq_nil_of_length_eq_zero (by rw [← xb.len, e0]; rfl)
        subst this
        rw [List.append_nil] at q
        exact k.here hr q xd
    | _ => exact absurd q (by simp [Dm.oAdd])
  | lst l =>
    obtain ⟨a, vs, ea, ha, _, la, xa⟩ := vL xd
    cases e with
    | lst m =>
      obtain ⟨b, us, eb, hb, _, lb, xb⟩ := vL xe
      obtain ⟨z, q⟩ := q
      exact op_cat pins s σ H _ _ v u Q I rx ry (LO.cat hr ha xa hb xb z q k ea eb)
    | ref b =>
      obtain ⟨m, hm, z, q⟩ := q
      obtain ⟨us, hb, lb, xb⟩ := hr b _ hm
      exact op_cat pins s σ H _ _ v u Q I rx ry (LO.cat hr ha xa hb xb z q k ea (vR xe))
    | _ => exact absurd q (by simp [Dm.oAdd])
  | ref a =>
    cases e with
    | lst m =>
      obtain ⟨b, us, eb, hb, _, lb, xb⟩ := vL xe
      obtain ⟨l, hl, z, q⟩ := q
      obtain ⟨vs, ha, la, xa⟩ := hr a _ hl
      exact op_cat pins s σ H _ _ v u Q I rx ry (LO.cat hr ha xa hb xb z q k (vR xd) eb)
    | ref b =>
      obtain ⟨l, m, hl, hm, z, q⟩ := q
      obtain ⟨vs, ha, la, xa⟩ := hr a _ hl
      obtain ⟨us, hb, lb, xb⟩ := hr b _ hm
      exact op_cat pins s σ H _ _ v u Q I rx ry (LO.cat hr ha xa hb xb z q k (vR xd) (vR xe))
    | _ => exact absurd q (by simp [Dm.oAdd])
  | _ => exact absurd q (by simp [Dm.oAdd])
theorem dop_sub : OpR X (binaryOp .Sub) (LO (gOf X cm hidn) Dm.oSub) := by
  intro pins s σ H x y v u Q I rx ry ⟨d, e, h, P, xd, xe, hr, q, k⟩
  cases d with
  | int i =>
    cases e with
    | int j =>
      obtain rfl := vI xd
      obtain rfl := vI xe
      exact op_sub pins s σ H _ _ v u Q I rx ry ⟨i, j, rfl, rfl, k.here hr q xI⟩
    | _ => exact absurd q (by simp [Dm.oSub])
  | _ => exact absurd q (by simp [Dm.oSub])
theorem dop_fdiv : OpR X (binaryOp .FloorDiv) (LO (gOf X cm hidn) Dm.oFdiv) := by
  intro pins s σ H x y v u Q I rx ry ⟨d, e, h, P, xd, xe, hr, q, k⟩
  cases d with
  | int i =>
    cases e with
    | int j =>
      obtain rfl := vI xd
      obtain rfl := vI xe
      obtain ⟨z, q⟩ := q
      exact op_fdiv pins s σ H _ _ v u Q I rx ry ⟨i, j, rfl, rfl, z, k.here hr q xI⟩
    | _ => exact absurd q (by simp [Dm.oFdiv])
  | _ => exact absurd q (by simp [Dm.oFdiv])
theorem dop_mod : OpR X (binaryOp .Mod) (LO (gOf X cm hidn) Dm.oMod) := by
  intro pins s σ H x y v u Q I rx ry ⟨d, e, h, P, xd, xe, hr, q, k⟩
  cases d with
  | int i =>
    cases e with
    | int j =>
      obtain rfl := vI xd
      obtain rfl := vI xe
      obtain ⟨z, q⟩ := q
      exact op_mod pins s σ H _ _ v u Q I rx ry ⟨i, j, rfl, rfl, z, k.here hr q xI⟩
    | _ => exact absurd q (by simp [Dm.oMod])
  | _ => exact absurd q (by simp [Dm.oMod])
theorem dop_pow : OpR X (binaryOp .Pow) (LO (gOf X cm hidn) Dm.oPow) := by
  intro pins s σ H x y v u Q I rx ry ⟨d, e, h, P, xd, xe, hr, q, k⟩
  cases d with
  | int i =>
    cases e with
    | int j =>
      obtain rfl := vI xd
      obtain rfl := vI xe
      obtain ⟨z, q⟩ := q
      exact op_pow pins s σ H _ _ v u Q I rx ry ⟨i, j, rfl, rfl, z, k.here hr q xI⟩
    | _ => exact absurd q (by simp [Dm.oPow])
  | _ => exact absurd q (by simp [Dm.oPow])
theorem dun_neg : UnR X (unaryOp .USub) (LU (gOf X cm hidn) Dm.oNeg) := by
  intro pins s σ H x v Q I rx ⟨d, h, P, xd, hr, q, k⟩
  cases d with
  | int i =>
    obtain rfl := vI xd
    exact un_neg pins s σ H _ v Q I rx ⟨i, rfl, k.here hr q xI⟩
  | _ => exact absurd q (by simp [Dm.oNeg])
/-! * -/
theorem rep0 {α : Type} {l : List α} : (List.replicate 0 l).flatten = [] := rfl
theorem rep1 {α : Type} {l : List α} : (List.replicate 1 l).flatten = l := by simp
theorem rep_nil {α : Type} (n : Nat) : (List.replicate n ([] : List α)).flatten = [] := by
  induction n with
  | zero => rfl
  | succ n ih => rw [List.replicate_succ, List.flatten_cons, ih]; rfl
theorem len_rep {α : Type} (n : Nat) (l : List α) : (List.replicate n l).flatten.length = n * l.length := by
  induction n with
  | zero => simp
  | succ n ih => rw [List.replicate_succ, List.flatten_cons, List.length_append, ih, Nat.succ_mul]; omega
/-- t * k that gives t itself, or the empty tuple -/
theorem tuple_mul_same (l : Addr) (items : Array Value) (n : Nat) (dd : Option Addr) (sl : Array (Option Value)) (x : Int) (u : Tok) (c0 : (decide (x < -(2 ^ 63)) || decide (x ≥ 2 ^ 63)) = false) (c1 : (items.isEmpty || x == 1) = true) :
    Meets (Builtin.«tuple.__mul__» ⟨[.ref l, .int x u], []⟩) (fun _ R s => s.heap.get? l = some { cls := .type "tuple", dict := dd, data := .seq items n, slots := sl } ∧ R (.ok (.ret (.ref l))) s) :=
  .of_wp fun prog w A R s h => by
    obtain ⟨hp, g, d, tk, os⟩ := s
    obtain ⟨hl, h⟩ := h
    have f1 := AutoSeq1.idx_int
    wp_walk using PySem.AutoSeq1.wpAny_loadPart' hl
    repeat (first
      | (refine wpAny_ite_false (decide_eq_false (by rw [c0]; exact Bool.false_ne_true)) ?_; wp_walk using PySem.AutoSeq1.wpAny_loadPart' hl)
      | (refine wpAny_ite_true (decide_eq_true (by rw [c1])) ?_; wp_walk using PySem.AutoSeq1.wpAny_loadPart' hl))
    exact ⟨_, rfl, h⟩
theorem tuple_mul_none (l : Addr) (items : Array Value) (n : Nat) (dd : Option Addr) (sl : Array (Option Value)) (x : Int) (u : Tok) (c0 : (decide (x < -(2 ^ 63)) || decide (x ≥ 2 ^ 63)) = false) (c1 : (items.isEmpty || x == 1) = false) (c2 : (decide (x ≤ 0) || items.isEmpty) = true) :
    Meets (Builtin.«tuple.__mul__» ⟨[.ref l, .int x u], []⟩) (fun _ R s => s.heap.get? l = some { cls := .type "tuple", dict := dd, data := .seq items n, slots := sl } ∧
      R (.ok (.ret (Value.ref s.heap.objs.size))) { s with heap := s.heap.push { cls := Value.type "tuple", data := Data.seq #[] }, toks := s.toks }) :=
  .of_wp fun prog w A R s h => by
    obtain ⟨hp, g, d, tk, os⟩ := s
    obtain ⟨hl, h⟩ := h
    have f1 := AutoSeq1.idx_int
    wp_walk using PySem.AutoSeq1.wpAny_loadPart' hl
    repeat (first
      | (refine wpAny_ite_false (decide_eq_false (by rw [c0]; exact Bool.false_ne_true)) ?_; wp_walk using PySem.AutoSeq1.wpAny_loadPart' hl)
      | (refine wpAny_ite_false (decide_eq_false (by rw [c1]; exact Bool.false_ne_true)) ?_; wp_walk using PySem.AutoSeq1.wpAny_loadPart' hl)
      | (refine wpAny_ite_true (decide_eq_true (by rw [c2])) ?_; wp_walk using PySem.AutoSeq1.wpAny_loadPart' hl))
    exact ⟨_, rfl, h⟩
/-- t * k, k at most 1 or t empty -/
theorem op_rep_small : OpR X (binaryOp .Mult) (fun x y H Q => ∃ l k xs, x = .ref l ∧ y = .int k ∧ SqT X.K H l xs ∧ -(2 ^ 63) ≤ k ∧ k < 2 ^ 63 ∧ ((xs = [] ∨ k = 1) ∧ Q (.ref l) H ∨ (xs ≠ [] ∧ k ≤ 0 ∧ ∀ p, H p = none → Q (.ref p) (upd H p (.tup []))))) := by
  intro pins s σ H x y v u Q I rx ry h
  obtain ⟨l, k, xs, rfl, rfl, hT, h1, h2, q⟩ := h
  cases rx
  obtain ⟨t, rfl⟩ := ry
  obtain ⟨its, r, ⟨⟨cls, dd, data, sl⟩, ho, hc, n, hd⟩, hs⟩ := I.tuple hT
  simp only at hc hd
  subst hc hd
  have hle : its.length = xs.length := r.length.symm
  have c0 : (decide (k < -(2 ^ 63)) || decide (k ≥ 2 ^ 63)) = false := by
    rw [decide_eq_false (by omega), decide_eq_false (by omega)] <;> rfl
  rcases q with ⟨hc, q⟩ | ⟨hne, hk, q⟩
  · have c1 : (its.toArray.isEmpty || k == 1) = true := by
      rcases hc with hc | hc
      · have : its = [] := List.eq_nil_of_length_eq_zero (by rw [hle, hc]; rfl)
        subst this
        rfl
      · subst hc
        simp
    exact wpAny_binaryOp_repeat_ref (T := "tuple") (U := "int") (by decide) ⟨_, ho, rfl⟩ (fun s' => typeIs_int s' k t) noFill_tuple_mul F.fills_int_mul F.slot_int_rmul repeat_tuple F.slot_int_index.lookup
      (call_meets F.slot_int_rmul (typeIs_int s k t) F.entry_int_rmul (F.args_int_rmul_2 _ _) (int_rmul_tuple k t l its.toArray n dd sl)
        ⟨ho, rfl, ⟨_, ho, rfl⟩, call_meets F.slot_tuple_mul ⟨_, ho, rfl⟩ F.entry_tuple_mul (F.args_tuple_mul_2 _ _) (tuple_mul_same l its.toArray n dd sl k t c0 c1) ⟨ho, ⟨.ref l, H, I, rfl, q⟩⟩⟩)
  · have hn : its ≠ [] := fun e => hne (by
      rw [e] at hle
      exact List.eq_nil_of_length_eq_zero hle.symm)
    have hi : its.toArray.isEmpty = false := by
      cases its with
      | nil => exact absurd rfl hn
      | cons a b => rfl
    have c1 : (its.toArray.isEmpty || k == 1) = false := by
      rw [hi, Bool.false_or]
      exact beq_eq_false_iff_ne.mpr (by omega)
    have c2 : (decide (k ≤ 0) || its.toArray.isEmpty) = true := by
      rw [decide_eq_true hk] <;> rfl
    exact wpAny_binaryOp_repeat_ref (T := "tuple") (U := "int") (by decide) ⟨_, ho, rfl⟩ (fun s' => typeIs_int s' k t) noFill_tuple_mul F.fills_int_mul F.slot_int_rmul repeat_tuple F.slot_int_index.lookup
      (call_meets F.slot_int_rmul (typeIs_int s k t) F.entry_int_rmul (F.args_int_rmul_2 _ _) (int_rmul_tuple k t l its.toArray n dd sl)
        ⟨ho, rfl, ⟨_, ho, rfl⟩, call_meets F.slot_tuple_mul ⟨_, ho, rfl⟩ F.entry_tuple_mul (F.args_tuple_mul_2 _ _) (tuple_mul_none l its.toArray n dd sl k t c0 c1 c2)
          ⟨ho, ⟨.ref s.heap.objs.size, _, I.laid (t' := s.toks) (o := .tup []) (fun b ob z => Heap.get?_push_of_some _ z) (Nat.le_refl _) ⟨Nat.zero_le _, [], .nil, IsTup.new _ _⟩, rfl, q _ (I.hok.fresh (Nat.le_refl _))⟩⟩⟩)
theorem dop_mul : OpR X (binaryOp .Mult) (LO (gOf X cm hidn) Dm.oMul) := by
  intro pins s σ H x y v u Q I rx ry ⟨d, e, h, P, xd, xe, hr, q, k⟩
  cases d with
  | int i =>
    cases e with
    | int j =>
      obtain rfl := vI xd
      obtain rfl := vI xe
      obtain ⟨z, q⟩ := q
      exact op_mul pins s σ H _ _ v u Q I rx ry ⟨i, j, rfl, rfl, z, k.here hr q xI⟩
    | _ => exact absurd q (by simp [Dm.oMul])
  | tup l =>
    cases e with
    | int n =>
      obtain ⟨a, vs, rfl, ha, la, xa⟩ := vT xd
      obtain rfl := vI xe
      obtain ⟨z0, z1, z2, q⟩ := q
      by_cases hs : l = [] ∨ n = 1
      · refine op_rep_small pins s σ H _ _ v u Q I rx ry ⟨a, n, vs, rfl, rfl, T_of ha, z0, by omega, .inl ⟨?_, ?_⟩⟩
        · rcases hs with hs | hs
          · subst hs; exact .inl (List.eq_nil_of_length_eq_zero (by rw [xa.len]; rfl))
          · exact .inr hs
        · rcases hs with hs | hs
          · subst hs; rw [rep_nil] at q; exact k.here hr q xd
          · subst hs; rw [show (1 : Int).toNat = 1 from rfl, rep1] at q; exact k.here hr q xd
      · by_cases hk : n ≤ 0
        · have e0 : n.toNat = 0 := by omega
          rw [e0, rep0] at q
          exact op_rep_small pins s σ H _ _ v u Q I rx ry ⟨a, n, vs, rfl, rfl, T_of ha, z0, by omega, .inr ⟨fun e1 => hs (.inl (List.eq_nil_of_length_eq_zero (by rw [← xa.len, e1]; rfl))), hk, fun p np => k.tup hr q .nil (Nat.zero_le _) np⟩⟩
        · refine op_repT pins s σ H _ _ v u Q I rx ry ⟨a, n, vs, rfl, rfl, T_of ha, fun e1 => hs (.inl (List.eq_nil_of_length_eq_zero (by rw [← xa.len, e1]; rfl))), ?_, z1, by rw [xa.len]; exact z2, fun p np => k.tup hr q (xa.rep _) ?_ np⟩
          · rcases Int.lt_or_le 1 n with h' | h'
            · omega
            · exact absurd (show n = 1 by omega) fun e => hs (.inr e)
          · rw [len_rep, sizeLine_eq]
            have a1 : n.toNat * l.length ≤ 1000 * 1000 := Nat.mul_le_mul (by omega) z2
            omega
    | _ => exact absurd q (by simp [Dm.oMul])
  | lst l =>
    cases e with
    | int n =>
      obtain ⟨a, vs, rfl, ha, _, la, xa⟩ := vL xd
      obtain rfl := vI xe
      obtain ⟨z1, z2, z3, q⟩ := q
      have a1 : l.length * n.toNat ≤ 1000 * 1000 := Nat.mul_le_mul z2 (by omega)
      refine op_rep pins s σ H _ _ v u Q I rx ry ⟨a, n, vs, rfl, rfl, ha, z3, by omega, ?_, fun p np => k.lst hr q (xa.rep _) ?_ np⟩
      · rw [xa.len, sizeLine_eq]; omega
      · rw [len_rep, sizeLine_eq, Nat.mul_comm]; omega
    | _ => exact absurd q (by simp [Dm.oMul])
  | _ => exact absurd q (by simp [Dm.oMul])
end
end Dr
end S_DOps
section S_DCmp
set_option Elab.async false
set_option linter.all false
set_option maxRecDepth 100000
set_option maxHeartbeats 1000000
/-! DCmp: comparisons, membership, places. -/
namespace Dr
open PySem PySem.Spec PyProof.Rows L2
mutual
def py : Dm.D → PyData
  | .non => .none
  | .bl b => .bool b
  | .int i => .int i
  | .str x => .str x
  | .tup l => .tuple (pyL l)
  | .lst l => .list (pyL l)
  | _ => .none
def pyL : List Dm.D → List PyData
  | [] => []
  | d :: l => py d :: pyL l
end
mutual
theorem py_dp {g : Gd} {H : Hp} {h : Dm.Hd} : ∀ (n : Nat) (d : Dm.D) (v : V), Dm.plain n d = true → VR g H h d v → Dp g.K H v (py d)
  | _, .non, _, _, x => by obtain rfl := vN x; unfold py; exact .non
  | _, .bl b, _, _, x => by obtain rfl := vB x; unfold py; exact .bl b
  | _, .int i, _, _, x => by obtain rfl := vI x; unfold py; exact .int i
  | _, .str i, _, _, x => by obtain rfl := vS x; unfold py; exact .str i
  | n, .tup l, _, p, x => by
    obtain ⟨a, vs, rfl, ha, _, xa⟩ := vT x
    unfold Dm.plain at p
    rw [Bool.and_eq_true] at p
    unfold py
    exact .tup (T_of ha) (py_dpL (n - 1) l vs p.2 xa)
  | n, .lst l, _, p, x => by
    obtain ⟨a, vs, rfl, ha, _, _, xa⟩ := vL x
    unfold Dm.plain at p
    rw [Bool.and_eq_true] at p
    unfold py
    exact .lst (L_of ha) (py_dpL (n - 1) l vs p.2 xa)
  | _, .byt _, _, p, _ => by simp [Dm.plain] at p
  | _, .scr _, _, p, _ => by simp [Dm.plain] at p
  | _, .set _, _, p, _ => by simp [Dm.plain] at p
  | _, .ref _, _, p, _ => by simp [Dm.plain] at p
  | _, .ty _, _, p, _ => by simp [Dm.plain] at p
  | _, .exc _ _ _ _ _, _, p, _ => by simp [Dm.plain] at p
  | _, .lam _, _, p, _ => by simp [Dm.plain] at p
theorem py_dpL {g : Gd} {H : Hp} {h : Dm.Hd} : ∀ (n : Nat) (l : List Dm.D) (vs : List V), Dm.plainL n l = true → VRs g H h l vs → DpAll g.K H vs (pyL l)
  | _, [], _, _, x => by unfold VRs at x; subst x; unfold pyL; exact .nil
  | n, d :: l, _, p, x => by
    unfold Dm.plainL at p
    rw [Bool.and_eq_true] at p
    unfold VRs at x
    obtain ⟨v, r, rfl, x1, x2⟩ := x
    unfold pyL
    exact .cons (py_dp n d v p.1 x1) (py_dpL n l r p.2 x2)
end
mutual
theorem py_shaped : ∀ (n : Nat) (d : Dm.D), Dm.plain n d = true → (py d).canLay0 = true ∧ (py d).depth ≤ n
  | _, .non, _ => by simp [py, PyData.canLay0, PyData.depth]
  | _, .bl b, _ => by simp [py, PyData.canLay0, PyData.depth]
  | _, .int i, _ => by simp [py, PyData.canLay0, PyData.depth]
  | _, .str i, p => by
    refine ⟨?_, by simp [py, PyData.depth]⟩
    unfold Dm.plain at p
    unfold py PyData.canLay0 PyData.strOk
    exact p
  | n, .tup l, p => by
    unfold Dm.plain at p
    rw [Bool.and_eq_true, decide_eq_true_iff] at p
    obtain ⟨a, b⟩ := py_shapedL (n - 1) l p.2
    have := p.1
    unfold py PyData.canLay0 PyData.depth
    exact ⟨a, by omega⟩
  | n, .lst l, p => by
    unfold Dm.plain at p
    rw [Bool.and_eq_true, decide_eq_true_iff] at p
    obtain ⟨a, b⟩ := py_shapedL (n - 1) l p.2
    have := p.1
    unfold py PyData.canLay0 PyData.depth
    exact ⟨a, by omega⟩
  | _, .byt _, p => by simp [Dm.plain] at p
  | _, .scr _, p => by simp [Dm.plain] at p
  | _, .set _, p => by simp [Dm.plain] at p
  | _, .ref _, p => by simp [Dm.plain] at p
  | _, .ty _, p => by simp [Dm.plain] at p
  | _, .exc _ _ _ _ _, p => by simp [Dm.plain] at p
  | _, .lam _, p => by simp [Dm.plain] at p
theorem py_shapedL : ∀ (n : Nat) (l : List Dm.D), Dm.plainL n l = true → PyData.canLayAll0 (pyL l) = true ∧ PyData.depthAll (pyL l) ≤ n
  | _, [], _ => by simp [pyL, PyData.canLayAll0, PyData.depthAll]
  | n, d :: l, p => by
    unfold Dm.plainL at p
    rw [Bool.and_eq_true] at p
    obtain ⟨a, b⟩ := py_shaped n d p.1
    obtain ⟨c, e⟩ := py_shapedL n l p.2
    unfold pyL PyData.canLayAll0 PyData.depthAll
    rw [a, c]
    exact ⟨rfl, by omega⟩
end
theorem py_sh {n : Nat} {d : Dm.D} (hn : n ≤ 64) (p : Dm.plain n d = true) : SeqAt.shaped (py d) = true := by
  obtain ⟨a, b⟩ := py_shaped n d p
  unfold SeqAt.shaped
  rw [a, decide_eq_true (by omega)]
  rfl
mutual
theorem py_eqv : ∀ (n m : Nat) (d e : Dm.D), Dm.plain n d = true → Dm.plain m e = true → PyData.eqv (py d) (py e) = Dm.eqv d e
  | n, m, .tup l, e, p, q => by
    cases e with
    | tup k =>
      unfold Dm.plain at p q
      rw [Bool.and_eq_true] at p q
      unfold py PyData.eqv Dm.eqv
      exact py_eqvL (n - 1) (m - 1) l k p.2 q.2
    | lst k => simp only [py, PyData.eqv, Dm.eqv]
    | non => simp only [py, PyData.eqv, Dm.eqv]
    | bl b => simp only [py, PyData.eqv, Dm.eqv]
    | int i => simp only [py, PyData.eqv, Dm.eqv]
    | str x => simp only [py, PyData.eqv, Dm.eqv]
    | _ => simp only [Dm.plain] at q; cases q
  | n, m, .lst l, e, p, q => by
    cases e with
    | lst k =>
      unfold Dm.plain at p q
      rw [Bool.and_eq_true] at p q
      unfold py PyData.eqv Dm.eqv
      exact py_eqvL (n - 1) (m - 1) l k p.2 q.2
    | tup k => simp only [py, PyData.eqv, Dm.eqv]
    | non => simp only [py, PyData.eqv, Dm.eqv]
    | bl b => simp only [py, PyData.eqv, Dm.eqv]
    | int i => simp only [py, PyData.eqv, Dm.eqv]
    | str x => simp only [py, PyData.eqv, Dm.eqv]
    | _ => simp only [Dm.plain] at q; cases q
  | n, m, .non, e, p, q => by
    cases e with
    | tup k => simp only [py, PyData.eqv, Dm.eqv]
    | lst k => simp only [py, PyData.eqv, Dm.eqv]
    | non => simp only [py, PyData.eqv, Dm.eqv]
    | bl b => simp only [py, PyData.eqv, Dm.eqv]
    | int i => simp only [py, PyData.eqv, Dm.eqv]
    | str x => simp only [py, PyData.eqv, Dm.eqv]
    | _ => simp only [Dm.plain] at q; cases q
  | n, m, .bl b, e, p, q => by
    cases e with
    | tup k => simp only [py, PyData.eqv, Dm.eqv]
    | lst k => simp only [py, PyData.eqv, Dm.eqv]
    | non => simp only [py, PyData.eqv, Dm.eqv]
    | bl b => simp only [py, PyData.eqv, Dm.eqv]
    | int i => simp only [py, PyData.eqv, Dm.eqv]
    | str x => simp only [py, PyData.eqv, Dm.eqv]
    | _ => simp only [Dm.plain] at q; cases q
  | n, m, .int b, e, p, q => by
    cases e with
    | tup k => simp only [py, PyData.eqv, Dm.eqv]
    | lst k => simp only [py, PyData.eqv, Dm.eqv]
    | non => simp only [py, PyData.eqv, Dm.eqv]
    | bl b => simp only [py, PyData.eqv, Dm.eqv]
    | int i => simp only [py, PyData.eqv, Dm.eqv]
    | str x => simp only [py, PyData.eqv, Dm.eqv]
    | _ => simp only [Dm.plain] at q; cases q
  | n, m, .str b, e, p, q => by
    cases e with
    | tup k => simp only [py, PyData.eqv, Dm.eqv]
    | lst k => simp only [py, PyData.eqv, Dm.eqv]
    | non => simp only [py, PyData.eqv, Dm.eqv]
    | bl b => simp only [py, PyData.eqv, Dm.eqv]
    | int i => simp only [py, PyData.eqv, Dm.eqv]
    | str x => simp only [py, PyData.eqv, Dm.eqv]
    | _ => simp only [Dm.plain] at q; cases q
  | _, _, .byt _, _, p, _ => by simp [Dm.plain] at p
  | _, _, .scr _, _, p, _ => by simp [Dm.plain] at p
  | _, _, .set _, _, p, _ => by simp [Dm.plain] at p
  | _, _, .ref _, _, p, _ => by simp [Dm.plain] at p
  | _, _, .ty _, _, p, _ => by simp [Dm.plain] at p
  | _, _, .exc _ _ _ _ _, _, p, _ => by simp [Dm.plain] at p
  | _, _, .lam _, _, p, _ => by simp [Dm.plain] at p
theorem py_eqvL : ∀ (n m : Nat) (l k : List Dm.D), Dm.plainL n l = true → Dm.plainL m k = true → PyData.eqvAll (pyL l) (pyL k) = Dm.eqvL l k
  | _, _, [], [], _, _ => by simp only [pyL, PyData.eqvAll, Dm.eqvL]
  | _, _, [], _ :: _, _, _ => by simp only [pyL, PyData.eqvAll, Dm.eqvL]
  | _, _, _ :: _, [], _, _ => by simp only [pyL, PyData.eqvAll, Dm.eqvL]
  | n, m, d :: l, e :: k, p, q => by
    unfold Dm.plainL at p q
    rw [Bool.and_eq_true] at p q
    simp only [pyL, PyData.eqvAll, Dm.eqvL]
    rw [py_eqv n m d e p.1 q.1, py_eqvL n m l k p.2 q.2]
end
/-- a value's data, a list of the heap as data -/
theorem vw_dp {g : Gd} {H : Hp} {h : Dm.Hd} (r : HR g H h) {n : Nat} {d : Dm.D} {v : V} (p : Dm.plain n (Dm.vw h d) = true) (x : VR g H h d v) : Dp g.K H v (py (Dm.vw h d)) := by
  cases d with
  | ref a =>
    obtain rfl := vR x
    simp only [Dm.vw] at p ⊢
    cases q : h a with
    | none => simp [q, Dm.plain] at p
    | some o =>
      cases o with
      | lst l =>
        simp only [q, Dm.plain, Bool.and_eq_true] at p
        obtain ⟨vs, e1, e2, e3⟩ := r a _ q
        simp only [py]
        exact .lst (L_of e1) (py_dpL (n - 1) l vs p.2 e3)
      | dct _ _ => simp [q, Dm.plain] at p
      | ins _ _ => simp [q, Dm.plain] at p
  | _ => exact py_dp n _ v p x

section
variable {X : Cx} {cm : CM} {hidn : Hdn}
theorem dop_eq (hu : X.A.units + 64 < cLine) : OpR X (compareOp .Eq) (LO (gOf X cm hidn) Dm.oEq) := by
  intro pins s σ H x y v u Q I rx ry ⟨d, e, h, P, xd, xe, hr, ⟨p1, p2, q⟩, k⟩
  refine op_eqD hu pins s σ H x y v u Q I rx ry ⟨_, _, vw_dp hr p1 xd, vw_dp hr p2 xe, py_sh (by decide) p1, py_sh (by decide) p2, ?_⟩
  rw [py_eqv 50 50 _ _ p1 p2]
  exact k.here hr q xB
theorem dop_ne (hu : X.A.units + 64 < cLine) : OpR X (compareOp .NotEq) (LO (gOf X cm hidn) Dm.oNe) := by
  intro pins s σ H x y v u Q I rx ry ⟨d, e, h, P, xd, xe, hr, ⟨p1, p2, q⟩, k⟩
  refine op_neD hu pins s σ H x y v u Q I rx ry ⟨_, _, vw_dp hr p1 xd, vw_dp hr p2 xe, py_sh (by decide) p1, py_sh (by decide) p2, ?_⟩
  rw [py_eqv 50 50 _ _ p1 p2]
  exact k.here hr q xB
/-- is None -/
theorem dop_isN : OpR X (compareOp .Is) (fun x y H Q => y = .non ∧ LU (gOf X cm hidn) Dm.oIsN x H Q) := by
  intro pins s σ H x y v u Q I rx ry ⟨ey, d, h, P, xd, hr, q, k⟩
  subst ey
  refine op_isN pins s σ H x _ v u Q I rx ry ⟨rfl, ?_⟩
  have e : decide (x = V.non) = Dm.isNon d := by
    cases d with
    | non => obtain rfl := vN xd; rfl
    | bl _ => obtain rfl := vB xd; rfl
    | int _ => obtain rfl := vI xd; rfl
    | str _ => obtain rfl := vS xd; rfl
    | ref _ => obtain rfl := vR xd; rfl
    | ty _ => obtain rfl := vTy xd; rfl
    | byt _ => unfold VR at xd; subst xd; rfl
    | tup _ => obtain ⟨a, _, rfl, _⟩ := vT xd; rfl
    | lst _ => obtain ⟨a, _, rfl, _⟩ := vL xd; rfl
    | scr _ => unfold VR at xd; obtain ⟨a, _, rfl, _⟩ := xd; rfl
    | set _ => unfold VR at xd; obtain ⟨a, _, _, rfl, _⟩ := xd; rfl
    | exc _ _ _ _ _ => unfold VR at xd; obtain ⟨rfl, _⟩ := xd; rfl
    | lam _ => unfold VR at xd; obtain ⟨a, _, rfl, _⟩ := xd; rfl
    | fn _ => unfold VR at xd; subst xd; rfl
    | stp _ => unfold VR at xd; obtain ⟨a, _, rfl, _⟩ := xd; rfl
    | ktp _ => unfold VR at xd; obtain ⟨a, _, _, rfl, _⟩ := xd; rfl
  rw [e]
  exact k.here hr q xB
theorem dop_isNotN : OpR X (compareOp .IsNot) (fun x y H Q => y = .non ∧ LU (gOf X cm hidn) Dm.oIsNotN x H Q) := by
  intro pins s σ H x y v u Q I rx ry ⟨ey, d, h, P, xd, hr, q, k⟩
  subst ey
  refine op_notN pins s σ H x _ v u Q I rx ry ⟨rfl, ?_⟩
  have e : decide (x = V.non) = Dm.isNon d := by
    cases d with
    | non => obtain rfl := vN xd; rfl
    | bl _ => obtain rfl := vB xd; rfl
    | int _ => obtain rfl := vI xd; rfl
    | str _ => obtain rfl := vS xd; rfl
    | ref _ => obtain rfl := vR xd; rfl
    | ty _ => obtain rfl := vTy xd; rfl
    | byt _ => unfold VR at xd; subst xd; rfl
    | tup _ => obtain ⟨a, _, rfl, _⟩ := vT xd; rfl
    | lst _ => obtain ⟨a, _, rfl, _⟩ := vL xd; rfl
    | scr _ => unfold VR at xd; obtain ⟨a, _, rfl, _⟩ := xd; rfl
    | set _ => unfold VR at xd; obtain ⟨a, _, _, rfl, _⟩ := xd; rfl
    | exc _ _ _ _ _ => unfold VR at xd; obtain ⟨rfl, _⟩ := xd; rfl
    | lam _ => unfold VR at xd; obtain ⟨a, _, rfl, _⟩ := xd; rfl
    | fn _ => unfold VR at xd; subst xd; rfl
    | stp _ => unfold VR at xd; obtain ⟨a, _, rfl, _⟩ := xd; rfl
    | ktp _ => unfold VR at xd; obtain ⟨a, _, _, rfl, _⟩ := xd; rfl
  rw [e]
  exact k.here hr q xB
variable {ac : Acc} {a b : Expr} {pos : Pos} {t u : Dm.TE}
theorem de_isN {j pos'} (ha : PE X a (LE (gOf X cm hidn) ac t)) : PE X (.Compare a [.Is] [.Constant .none j pos'] pos) (LE (gOf X cm hidn) ac (Dm.eUn Dm.oIsN t)) :=
  (pe_cmpR (dop_isN (cm := cm) (hidn := hidn)) ha (pe_non (j := j) (pos := pos')) (by rfl)).imp fun σ H Q ⟨s, h, E, P, sr, hr, hac, q, k⟩ => ⟨s, h, E, _, sr, hr, hac, q, fun d h1 v H1 q1 s1 r1 x1 => ⟨rfl, d, h1, P, x1, r1, q1, EndE.stp k s1⟩⟩
theorem de_isNotN {j pos'} (ha : PE X a (LE (gOf X cm hidn) ac t)) : PE X (.Compare a [.IsNot] [.Constant .none j pos'] pos) (LE (gOf X cm hidn) ac (Dm.eUn Dm.oIsNotN t)) :=
  (pe_cmpR (dop_isNotN (cm := cm) (hidn := hidn)) ha (pe_non (j := j) (pos := pos')) (by rfl)).imp fun σ H Q ⟨s, h, E, P, sr, hr, hac, q, k⟩ => ⟨s, h, E, _, sr, hr, hac, q, fun d h1 v H1 q1 s1 r1 x1 => ⟨rfl, d, h1, P, x1, r1, q1, EndE.stp k s1⟩⟩
/-! < and its kin -/
theorem ints_vals {g : Gd} {H : Hp} {h : Dm.Hd} : ∀ {l : List Dm.D} {vs : List V} {ns : List Int}, VRs g H h l vs → Dm.intsOf l = some ns → vs = ns.map V.int
  | [], _, _, x, e => by unfold VRs at x; subst x; simp [Dm.intsOf] at e; subst e; rfl
  | d :: l, _, ns, x, e => by
    unfold VRs at x
    obtain ⟨v, r, rfl, x1, x2⟩ := x
    cases d with
    | int i =>
      obtain rfl := vI x1
      unfold Dm.intsOf at e
      cases q : Dm.intsOf l with
      | none => rw [q] at e; cases e
      | some ms =>
        rw [q] at e
        simp at e
        subst e
        rw [ints_vals x2 q]
        rfl
    | _ => simp [Dm.intsOf] at e
theorem ltvL_ints : ∀ {l k : List Dm.D} {ns ms : List Int}, Dm.intsOf l = some ns → Dm.intsOf k = some ms → Dm.ltvL l k = HT.lexLt ns ms
  | [], [], _, _, e, f => by simp [Dm.intsOf] at e f; subst e f; rfl
  | [], d :: k, ns, ms, e, f => by
    simp [Dm.intsOf] at e; subst e
    cases d with
    | int j =>
      unfold Dm.intsOf at f
      cases q : Dm.intsOf k with
      | none => rw [q] at f; cases f
      | some r => rw [q] at f; simp at f; subst f; rfl
    | _ => simp [Dm.intsOf] at f
  | d :: l, [], ns, ms, e, f => by
    simp [Dm.intsOf] at f; subst f
    cases d with
    | int j =>
      unfold Dm.intsOf at e
      cases q : Dm.intsOf l with
      | none => rw [q] at e; cases e
      | some r => rw [q] at e; simp at e; subst e; rfl
    | _ => simp [Dm.intsOf] at e
  | d :: l, d' :: k, ns, ms, e, f => by
    cases d with
    | int i =>
      cases d' with
      | int j =>
        unfold Dm.intsOf at e f
        cases q : Dm.intsOf l with
        | none => rw [q] at e; cases e
        | some r =>
          cases q' : Dm.intsOf k with
          | none => rw [q'] at f; cases f
          | some r' =>
            rw [q] at e; rw [q'] at f
            simp at e f
            subst e f
            rw [HT.lexLt_cons]
            simp only [Dm.ltvL, Dm.eqv, Dm.ltv]
            rw [ltvL_ints q q']
            by_cases h : i = j
            · subst h; simp [Dm.eqv]
            · simp [Dm.eqv, Dm.ltv, h]
      | _ => simp [Dm.intsOf] at f
    | _ => simp [Dm.intsOf] at e
/-- lists in order: rop of the first pair that differs, zop of the lengths -/
def lexOp (rop : Int → Int → Bool) (zop : Nat → Nat → Bool) : List Int → List Int → Bool
  | [], ys => zop 0 ys.length
  | x :: xs, ys => match ys with
    | [] => zop (xs.length + 1) 0
    | y :: ys => if x = y then lexOp rop zop xs ys else rop x y
theorem lexAt_op {rop : Int → Int → Bool} {zop : Nat → Nat → Bool} (hz : ∀ a b, zop (a + 1) (b + 1) = zop a b) : ∀ (i : Nat) (ns ms : List Int) (n m : List Int), ns = n.drop i → ms = m.drop i →
    Ob.lexAt (fun j => decide (n.getD j 0 = m.getD j 0)) (fun j => rop (n.getD j 0) (m.getD j 0)) (zop ns.length ms.length) i (min ns.length ms.length) = lexOp rop zop ns ms
  | i, [], ms, n, m, e1, e2 => by simp [Ob.lexAt, lexOp]
  | i, x :: xs, [], n, m, e1, e2 => by simp [Ob.lexAt, lexOp]
  | i, x :: xs, y :: ys, n, m, e1, e2 => by
    have g1 : n.getD i 0 = x := by
      have := congrArg (fun l : List Int => l[0]?) e1
      simp at this
      simp [List.getD, ← this]
    have g2 : m.getD i 0 = y := by
      have := congrArg (fun l : List Int => l[0]?) e2
      simp at this
      simp [List.getD, ← this]
    have d1 : xs = n.drop (i + 1) := by
      have := congrArg List.tail e1
      simpa using this
    have d2 : ys = m.drop (i + 1) := by
      have := congrArg List.tail e2
      simpa using this
    have ih := lexAt_op (rop := rop) hz (i + 1) xs ys n m d1 d2
    have em : min (x :: xs).length (y :: ys).length = min xs.length ys.length + 1 := by simp
    rw [em, Ob.lexAt_succ, g1, g2, List.length_cons, List.length_cons, hz]
    simp only [lexOp]
    by_cases h : x = y
    · rw [if_pos (decide_eq_true h), if_pos h, ih]
    · rw [if_neg (by simp [h]), if_neg h]
theorem lexOp_lt : ∀ (ns ms : List Int), lexOp (fun a b => decide (a < b)) (fun a b => decide (a < b)) ns ms = HT.lexLt ns ms
  | [], [] => rfl
  | [], y :: ys => by simp [lexOp, HT.lexLt]
  | x :: xs, [] => by simp [lexOp, HT.lexLt]
  | x :: xs, y :: ys => by
    rw [HT.lexLt_cons]
    simp only [lexOp]
    rw [lexOp_lt xs ys]
theorem lexOp_le : ∀ (ns ms : List Int), lexOp (fun a b => decide (a ≤ b)) (fun a b => decide (a ≤ b)) ns ms = !HT.lexLt ms ns
  | [], [] => rfl
  | [], y :: ys => by simp [lexOp, HT.lexLt]
  | x :: xs, [] => by simp [lexOp, HT.lexLt]
  | x :: xs, y :: ys => by
    rw [HT.lexLt_cons]
    simp only [lexOp]
    rw [lexOp_le xs ys]
    by_cases h : x = y
    · subst h; simp
    · rw [if_neg h, if_neg (Ne.symm h)]
      by_cases h' : x ≤ y
      · rw [decide_eq_true h', decide_eq_false (by omega)]; rfl
      · rw [decide_eq_false h', decide_eq_true (by omega)]; rfl
theorem lexOp_gt : ∀ (ns ms : List Int), lexOp (fun a b => decide (b < a)) (fun a b => decide (b < a)) ns ms = HT.lexLt ms ns
  | [], [] => rfl
  | [], y :: ys => by simp [lexOp, HT.lexLt]
  | x :: xs, [] => by simp [lexOp, HT.lexLt]
  | x :: xs, y :: ys => by
    rw [HT.lexLt_cons]
    simp only [lexOp]
    rw [lexOp_gt xs ys]
    by_cases h : x = y
    · subst h; simp
    · rw [if_neg h, if_neg (Ne.symm h)]
theorem lexOp_ge : ∀ (ns ms : List Int), lexOp (fun a b => decide (b ≤ a)) (fun a b => decide (b ≤ a)) ns ms = !HT.lexLt ns ms
  | [], [] => rfl
  | [], y :: ys => by simp [lexOp, HT.lexLt]
  | x :: xs, [] => by simp [lexOp, HT.lexLt]
  | x :: xs, y :: ys => by
    rw [HT.lexLt_cons]
    simp only [lexOp]
    rw [lexOp_ge xs ys]
    by_cases h : x = y
    · subst h; simp
    · rw [if_neg h, if_neg h]
      by_cases h' : y ≤ x
      · rw [decide_eq_true h', decide_eq_false (by omega)]; rfl
      · rw [decide_eq_false h', decide_eq_true (by omega)]; rfl
/-- two tuples of ints by one of the four -/
theorem op_tups {op : CmpOp} {rop : Int → Int → Bool} {zop : Nat → Nat → Bool} (hz : ∀ a b, zop (a + 1) (b + 1) = zop a b) (hop : ∀ a b, compareOp op a b = richCompare op a b)
    (leaf : ∀ (A : Around) (s : Shared) (a b : Int) (t u : Tok), Ob.RcOp op A s (.int a t) (.int b u) (rop a b))
    (tups : ∀ (s : Shared) (l b : Addr) (items items2 : Array Value) (e r : Nat → Bool), s.heap.IsTuple l items → s.heap.IsTuple b items2 → (∀ j (h1 : j < items.size) (h2 : j < items2.size), SeqAt.EqAt X.A.in1 s items[j] items2[j] (e j)) →
      (∀ j (h1 : j < items.size) (h2 : j < items2.size), e j = false → Ob.RcOp op X.A.in1 s items[j] items2[j] (r j)) → Ob.RcOp op X.A s (.ref l) (.ref b) (Ob.lexAt e r (zop items.size items2.size) 0 (min items.size items2.size))) :
    OpR X (compareOp op) (fun x y H Q => ∃ a b ns ms, x = .ref a ∧ y = .ref b ∧ SqT X.K H a (ns.map V.int) ∧ SqT X.K H b (ms.map V.int) ∧ Q (.bl (lexOp rop zop ns ms)) H) := by
  intro pins s σ H x y v u Q I rx ry h
  obtain ⟨a, b, ns, ms, rfl, rfl, ha, hb, q⟩ := h
  cases rx
  cases ry
  obtain ⟨its, r1, p1, _⟩ := I.tuple ha
  obtain ⟨its2, r2, p2, _⟩ := I.tuple hb
  have i1 : IntsAre its ns := Vals.ints r1
  have i2 : IntsAre its2 ms := Vals.ints r2
  have e1 : its.toArray.size = ns.length := by rw [List.size_toArray, i1.length]
  have e2 : its2.toArray.size = ms.length := by rw [List.size_toArray, i2.length]
  have at1 : ∀ j (h1 : j < its.toArray.size), ∃ t, its.toArray[j] = .int (ns.getD j 0) t := fun j h1 => PyProof.Rows.IntsAre.int_at i1 j _ (by simp only [List.size_toArray] at h1; simp [h1])
  have at2 : ∀ j (h1 : j < its2.toArray.size), ∃ t, its2.toArray[j] = .int (ms.getD j 0) t := fun j h1 => PyProof.Rows.IntsAre.int_at i2 j _ (by simp only [List.size_toArray] at h1; simp [h1])
  have R := tups s a b its.toArray its2.toArray (fun j => decide (ns.getD j 0 = ms.getD j 0)) (fun j => rop (ns.getD j 0) (ms.getD j 0)) p1 p2 (fun j h1 h2 => by
    obtain ⟨t, et⟩ := at1 j h1
    obtain ⟨t', et'⟩ := at2 j h2
    rw [et, et', ← Bool.beq_eq_decide_eq]
    exact SeqAt.EqAt.int_int _ _ _ _) fun j h1 h2 _ => by
      obtain ⟨t, et⟩ := at1 j h1
      obtain ⟨t', et'⟩ := at2 j h2
      rw [et, et']
      exact leaf _ _ _ _ _ _
  rw [e1, e2, lexAt_op hz 0 ns ms ns ms rfl rfl] at R
  rw [hop]
  exact R X.prog X.w X.xe _ ⟨.bl _, H, I, rfl, q⟩
theorem dop_lt (hu : X.A.units < cLine) : OpR X (compareOp .Lt) (LO (gOf X cm hidn) Dm.oLt) := by
  intro pins s σ H x y v u Q I rx ry ⟨d, e, h, P, xd, xe, hr, q, k⟩
  cases d with
  | int i =>
    cases e with
    | int j =>
      obtain rfl := vI xd
      obtain rfl := vI xe
      exact op_lt pins s σ H _ _ v u Q I rx ry ⟨i, j, rfl, rfl, k.here hr q xB⟩
    | _ => exact absurd q (by simp [Dm.oLt])
  | tup l =>
    cases e with
    | tup m =>
      obtain ⟨a, vs, rfl, ha, la, xa⟩ := vT xd
      obtain ⟨b, us, rfl, hb, lb, xb⟩ := vT xe
      obtain ⟨ns, ms, e1, e2, q⟩ := q
      obtain rfl := ints_vals xa e1
      obtain rfl := ints_vals xb e2
      rw [ltvL_ints e1 e2] at q
      exact op_ltT hu pins s σ H _ _ v u Q I rx ry ⟨a, b, ns, ms, rfl, rfl, T_of ha, T_of hb, k.here hr q xB⟩
    | _ => exact absurd q (by simp [Dm.oLt])
  | _ => exact absurd q (by simp [Dm.oLt])
theorem dop_le (hu : X.A.units < cLine) : OpR X (compareOp .LtE) (LO (gOf X cm hidn) Dm.oLe) := by
  intro pins s σ H x y v u Q I rx ry ⟨d, e, h, P, xd, xe, hr, q, k⟩
  cases d with
  | int i =>
    cases e with
    | int j =>
      obtain rfl := vI xd
      obtain rfl := vI xe
      exact op_le pins s σ H _ _ v u Q I rx ry ⟨i, j, rfl, rfl, k.here hr q xB⟩
    | _ => exact absurd q (by simp [Dm.oLe])
  | tup l =>
    cases e with
    | tup m =>
      obtain ⟨a, vs, rfl, ha, la, xa⟩ := vT xd
      obtain ⟨b, us, rfl, hb, lb, xb⟩ := vT xe
      obtain ⟨ns, ms, e1, e2, q⟩ := q
      obtain rfl := ints_vals xa e1
      obtain rfl := ints_vals xb e2
      rw [ltvL_ints e2 e1, ← lexOp_le] at q
      exact op_tups (zop := fun a b => decide (a ≤ b)) (fun a b => by simp) (fun _ _ => rfl) (fun _ _ _ _ _ _ => Ob.RcOp.le_int _ _ _ _) (fun s l b i1 i2 e r h1 h2 he hr => Ob.RcOp.tuples_le h1 h2 hu he hr) pins s σ H _ _ v u Q I rx ry ⟨a, b, ns, ms, rfl, rfl, T_of ha, T_of hb, k.here hr q xB⟩
    | _ => exact absurd q (by simp [Dm.oLe])
  | _ => exact absurd q (by simp [Dm.oLe])
theorem dop_gt (hu : X.A.units < cLine) : OpR X (compareOp .Gt) (LO (gOf X cm hidn) Dm.oGt) := by
  intro pins s σ H x y v u Q I rx ry ⟨d, e, h, P, xd, xe, hr, q, k⟩
  cases d with
  | int i =>
    cases e with
    | int j =>
      obtain rfl := vI xd
      obtain rfl := vI xe
      exact op_gt pins s σ H _ _ v u Q I rx ry ⟨i, j, rfl, rfl, k.here hr q xB⟩
    | _ => exact absurd q (by simp [Dm.oGt])
  | tup l =>
    cases e with
    | tup m =>
      obtain ⟨a, vs, rfl, ha, la, xa⟩ := vT xd
      obtain ⟨b, us, rfl, hb, lb, xb⟩ := vT xe
      obtain ⟨ns, ms, e1, e2, q⟩ := q
      obtain rfl := ints_vals xa e1
      obtain rfl := ints_vals xb e2
      rw [ltvL_ints e2 e1, ← lexOp_gt] at q
      exact op_tups (zop := fun a b => decide (b < a)) (fun a b => by simp) (fun _ _ => rfl) (fun _ _ _ _ _ _ => Ob.RcOp.gt_int _ _ _ _) (fun s l b i1 i2 e r h1 h2 he hr => Ob.RcOp.tuples_gt h1 h2 hu he hr) pins s σ H _ _ v u Q I rx ry ⟨a, b, ns, ms, rfl, rfl, T_of ha, T_of hb, k.here hr q xB⟩
    | _ => exact absurd q (by simp [Dm.oGt])
  | _ => exact absurd q (by simp [Dm.oGt])
theorem dop_ge (hu : X.A.units < cLine) : OpR X (compareOp .GtE) (LO (gOf X cm hidn) Dm.oGe) := by
  intro pins s σ H x y v u Q I rx ry ⟨d, e, h, P, xd, xe, hr, q, k⟩
  cases d with
  | int i =>
    cases e with
    | int j =>
      obtain rfl := vI xd
      obtain rfl := vI xe
      exact op_ge pins s σ H _ _ v u Q I rx ry ⟨i, j, rfl, rfl, k.here hr q xB⟩
    | _ => exact absurd q (by simp [Dm.oGe])
  | tup l =>
    cases e with
    | tup m =>
      obtain ⟨a, vs, rfl, ha, la, xa⟩ := vT xd
      obtain ⟨b, us, rfl, hb, lb, xb⟩ := vT xe
      obtain ⟨ns, ms, e1, e2, q⟩ := q
      obtain rfl := ints_vals xa e1
      obtain rfl := ints_vals xb e2
      rw [ltvL_ints e1 e2, ← lexOp_ge] at q
      exact op_tups (zop := fun a b => decide (b ≤ a)) (fun a b => by simp) (fun _ _ => rfl) (fun _ _ _ _ _ _ => Ob.RcOp.ge_int _ _ _ _) (fun s l b i1 i2 e r h1 h2 he hr => Ob.RcOp.tuples_ge h1 h2 hu he hr) pins s σ H _ _ v u Q I rx ry ⟨a, b, ns, ms, rfl, rfl, T_of ha, T_of hb, k.here hr q xB⟩
    | _ => exact absurd q (by simp [Dm.oGe])
  | _ => exact absurd q (by simp [Dm.oGe])
end
end Dr
end S_DCmp
section S_DExp
set_option Elab.async false
set_option linter.all false
set_option maxRecDepth 100000
set_option maxHeartbeats 1000000
/-! DExp: membership, places, dicts, slices, displays, fields, calls. -/
namespace Dr
open PySem PySem.Spec PyProof.Rows L2
theorem xT {g : Gd} {H : Hp} {h : Dm.Hd} {l : List Dm.D} {a : Addr} {vs : List V} (nh : ¬ g.hid a) (e : H a = some (.tup vs)) (z : l.length ≤ sizeLine) (x : VRs g H h l vs) : VR g H h (.tup l) (.ref a) := by unfold VR; exact ⟨a, vs, rfl, nh, .inl e, z, x⟩
/-! ### keys -/
theorem k1R_eqv {d e : Dm.D} {k q : Key} (x : k1R d k) (y : k1R e q) : Dm.eqv d e = decide (k = q) := by
  cases d with
  | int i =>
    have ex : k = .inl i := x
    cases e with
    | int j =>
      have ey : q = .inl j := y
      subst ex ey
      simp only [Dm.eqv]
      rw [key_ll]
    | str j =>
      have ey : q = .inr j := y
      subst ex ey
      simp only [Dm.eqv]
      rw [key_lr]
    | _ => exact y.elim
  | str i =>
    have ex : k = .inr i := x
    cases e with
    | int j =>
      have ey : q = .inl j := y
      subst ex ey
      simp only [Dm.eqv]
      rw [key_rl]
    | str j =>
      have ey : q = .inr j := y
      subst ex ey
      simp only [Dm.eqv]
      rw [key_rr, Bool.beq_eq_decide_eq]
    | _ => exact y.elim
  | _ => exact x.elim
theorem ksR_eqv : ∀ {d e : List Dm.D} {k q : List Key}, ksR d k → ksR e q → Dm.eqvL d e = decide (k = q)
  | [], [], _, _, x, y => by unfold ksR at x y; subst x y; simp [Dm.eqvL]
  | [], _ :: _, _, _, x, y => by
    unfold ksR at x y
    obtain ⟨k, r, rfl, _, _⟩ := y
    subst x
    simp [Dm.eqvL]
  | _ :: _, [], _, _, x, y => by
    unfold ksR at x y
    obtain ⟨k, r, rfl, _, _⟩ := x
    subst y
    simp [Dm.eqvL]
  | a :: d, b :: e, _, _, x, y => by
    unfold ksR at x y
    obtain ⟨k, r, rfl, x1, x2⟩ := x
    obtain ⟨k', r', rfl, y1, y2⟩ := y
    simp only [Dm.eqvL]
    rw [k1R_eqv x1 y1, ksR_eqv x2 y2]
    by_cases h : k = k'
    · subst h
      by_cases h' : r = r'
      · subst h'; simp
      · simp [h']
    · simp [h]
theorem key1_of {d : Dm.D} (p : Dm.key1 d = true) : ∃ k, k1R d k := by
  cases d with
  | int i => exact ⟨.inl i, rfl⟩
  | str i => exact ⟨.inr i, rfl⟩
  | _ => simp [Dm.key1] at p
theorem k1_val {g : Gd} {H : Hp} {h : Dm.Hd} {d : Dm.D} {k : Key} {v : V} (x : k1R d k) (y : VR g H h d v) : v = kV k := by
  cases d with
  | int i =>
    have ex : k = .inl i := x
    subst ex
    exact vI y
  | str i =>
    have ex : k = .inr i := x
    subst ex
    exact vS y
  | _ => exact x.elim
theorem ks_val {g : Gd} {H : Hp} {h : Dm.Hd} : ∀ {l : List Dm.D} {vs : List V}, (l.all Dm.key1) = true → VRs g H h l vs → ∃ ks, ksR l ks ∧ vs = ks.map kV
  | [], _, _, x => by unfold VRs at x; subst x; exact ⟨[], by unfold ksR; rfl, rfl⟩
  | d :: l, _, p, x => by
    unfold VRs at x
    obtain ⟨v, r, rfl, x1, x2⟩ := x
    rw [List.all_cons, Bool.and_eq_true] at p
    obtain ⟨k, hk⟩ := key1_of p.1
    obtain ⟨ks, hks, rfl⟩ := ks_val p.2 x2
    obtain rfl := k1_val hk x1
    exact ⟨k :: ks, by unfold ksR; exact ⟨k, ks, rfl, hk, hks⟩, rfl⟩
theorem lk_ER {g : Gd} {H : Hp} {h : Dm.Hd} {d : Dm.D} {k : Key} (x : k1R d k) : ∀ {l : List (Dm.D × Dm.D)} {es : List (Key × V)}, ER g H h l es →
    (match Dm.lkD d l with
      | none => valV es k = none
      | some e => ∃ v, valV es k = some v ∧ VR g H h e v)
  | [], _, r => by unfold ER at r; subst r; simp [Dm.lkD, valV_nil]
  | (b, e) :: l, _, r => by
    unfold ER at r
    obtain ⟨q, v, t, rfl, r1, r2, r3⟩ := r
    have ih := lk_ER x r3
    have ev := k1R_eqv r1 x
    unfold Dm.lkD
    by_cases hq : q = k
    · rw [ev, decide_eq_true hq, if_pos rfl]
      exact ⟨v, valV_pos (p := (q, v)) hq, r2⟩
    · rw [ev, decide_eq_false hq, if_neg Bool.false_ne_true, valV_neg (p := (q, v)) hq]
      exact ih
theorem lk_ERT {g : Gd} {H : Hp} {h : Dm.Hd} {d : List Dm.D} {k : List Key} (x : ksR d k) : ∀ {l : List (Dm.D × Dm.D)} {es : List (List Key × V)}, ERT g H h l es →
    (match Dm.lkD (.tup d) l with
      | none => valV es k = none
      | some e => ∃ v, valV es k = some v ∧ VR g H h e v)
  | [], _, r => by unfold ERT at r; subst r; simp [Dm.lkD, valV_nil]
  | (b, e) :: l, _, r => by
    unfold ERT at r
    obtain ⟨ds, q, v, t, rfl, rfl, r1, r2, r3⟩ := r
    have ih := lk_ERT x r3
    have ev : Dm.eqv (.tup ds) (.tup d) = decide (q = k) := by simp only [Dm.eqv]; exact ksR_eqv r1 x
    unfold Dm.lkD
    by_cases hq : q = k
    · rw [ev, decide_eq_true hq, if_pos rfl]
      exact ⟨v, valV_pos (p := (q, v)) hq, r2⟩
    · rw [ev, decide_eq_false hq, if_neg Bool.false_ne_true, valV_neg (p := (q, v)) hq]
      exact ih
/-- a known tuple of ints and texts is a key, too -/
theorem key_ofA {P : Program} {w : World} {H : Hp} {h : Heap} {a : Addr} {ks : List Key} (ok : HOk P w H h) (e : TupA H a (ks.map kV)) : (tupleKind (mixKind P w)).is h ks a := by
  obtain ⟨_, its, r, o, h1, h2, n, h3⟩ : ObjOk P w H h a (.tup (ks.map kV)) := by
    rcases e with e | ⟨o, e, _⟩
    · exact ok a _ e
    · exact (show h.get? a = some o ∧ ObjOk P w H h a (.tup (ks.map kV)) from ok a _ e).2
  exact ⟨o, its.toArray, n, h1, h2, h3, by simpa using items_are r⟩
def DGetA (H : Hp) (a : Addr) (y : V) (r : Option V) : Prop :=
  (∃ kvs k, Rd H a (.dK kvs) ∧ y = kV k ∧ r = valV kvs k) ∨ ∃ kvs k b, Rd H a (.dT kvs) ∧ y = .ref b ∧ TupA H b (k.map kV) ∧ r = valV kvs k
section
variable {X : Cx} {pins : List (Addr × Obj)} {σ : L2.St} {H : Hp} {s : Shared} {a : Addr} {y v : V} {u r : Value} {o : Option V} {A : Around} {E : Value → Shared → Prop}
theorem dA_getItem {Q : Value → Shared → Prop} (hu : A.units + 1 < cLine) (I : Inv X pins σ H s) (g : DGetA H a y (some v)) (ry : RelV y u) (h : ∀ w' s', Inv X pins σ H s' → RelV v w' → Q w' s') :
    wpAny (model X.prog X.w) A (getItem (.ref a) u) Q E s := by
  rcases g with ⟨kvs, k, e, ey, l⟩ | ⟨kvs, k, b, e, ey, eb, l⟩
  · exact d_getItem hu I (.inl ⟨kvs, k, e, ey, l⟩) ry h
  · subst ey
    cases (show u = Value.ref b from ry)
    obtain ⟨z, hd, xs, rel, dd⟩ := dt_rd I.hok e
    obtain ⟨w', hw, rw'⟩ := RelO.some_of (v := v) (o := (atKey xs k).map (·.2)) (by rw [l]; exact rel.val k)
    obtain ⟨p, hp, hp2⟩ := Option.map_eq_some_iff.mp hw
    refine wpAny_getItem_heap (tupleKind_room_in1 hu) (key_ofA I.hok eb) dd hp ?_
    rw [hp2]
    exact h w' _ (I.tok _) rw'
theorem dA_in {Q : Value → Shared → Prop} (hu : A.units + 1 < cLine) (I : Inv X pins σ H s) (g : DGetA H a y o) (ry : RelV y u) (h : ∀ s', Inv X pins σ H s' → Q (.bool o.isSome) s') :
    wpAny (model X.prog X.w) A (compareOp .In u (.ref a)) Q E s := by
  rcases g with ⟨kvs, k, e, ey, l⟩ | ⟨kvs, k, b, e, ey, eb, l⟩
  · exact d_in hu I (.inl ⟨kvs, k, e, ey, l⟩) ry h
  · subst ey
    cases (show u = Value.ref b from ry)
    obtain ⟨z, hd, xs, rel, dd⟩ := dt_rd I.hok e
    refine wpAny_in_heap (tupleKind_room_in1 hu) (key_ofA I.hok eb) hd dd ?_
    have q := (rel.val k).isSome_eq
    rw [Option.isSome_map] at q
    rw [← q, ← l]
    exact h _ (I.tok _)
theorem dA_notIn {Q : Value → Shared → Prop} (hu : A.units + 1 < cLine) (I : Inv X pins σ H s) (g : DGetA H a y o) (ry : RelV y u) (h : ∀ s', Inv X pins σ H s' → Q (.bool (!o.isSome)) s') :
    wpAny (model X.prog X.w) A (compareOp .NotIn u (.ref a)) Q E s := by
  rcases g with ⟨kvs, k, e, ey, l⟩ | ⟨kvs, k, b, e, ey, eb, l⟩
  · exact d_notIn hu I (.inl ⟨kvs, k, e, ey, l⟩) ry h
  · subst ey
    cases (show u = Value.ref b from ry)
    obtain ⟨z, hd, xs, rel, dd⟩ := dt_rd I.hok e
    refine wpAny_notIn_heap (tupleKind_room_in1 hu) (key_ofA I.hok eb) hd dd ?_
    have q := (rel.val k).isSome_eq
    rw [Option.isSome_map] at q
    rw [← q, ← l]
    exact h _ (I.tok _)
theorem dictA_typeIs (I : Inv X pins σ H s) (g : DGetA H a y o) : s.TypeIs (.ref a) "dict" := by
  rcases g with ⟨kvs, k, e, _, _⟩ | ⟨kvs, k, b, e, _, _, _⟩
  · obtain ⟨_, _, vs, _, dd⟩ := dk_rd I.hok e
    exact dd.typeIs
  · obtain ⟨_, _, xs, _, dd⟩ := dt_rd I.hok e
    exact dd.typeIs
end
/-- what a dict gives at a key -/
theorem dget_of {g : Gd} {H : Hp} {h : Dm.Hd} (hr : HR g H h) {p : Addr} {t : Bool} {l : List (Dm.D × Dm.D)} {y : Dm.D} {yv : V} (e : h p = some (.dct t l)) (hy : VR g H h y yv) (ky : Dm.keyOk t y = true) :
    ∃ o, DGetA H p yv o ∧ (match Dm.lkD y l with
      | none => o = none
      | some d => ∃ v, o = some v ∧ VR g H h d v) := by
  have x := hr p _ e
  cases t with
  | false =>
    obtain ⟨es, e1, e2, e3⟩ := x
    obtain ⟨k, hk⟩ : ∃ k, k1R y k := by
      cases y with
      | int i => exact ⟨.inl i, rfl⟩
      | str i => exact ⟨.inr i, rfl⟩
      | _ => simp [Dm.keyOk] at ky
    obtain rfl := k1_val hk hy
    exact ⟨_, .inl ⟨_, _, .inl e1, rfl, rfl⟩, lk_ER hk e3⟩
  | true =>
    obtain ⟨es, e1, e2, e3⟩ := x
    cases y with
    | tup ds =>
      obtain ⟨a, vs, rfl, ha, la, xa⟩ := vT hy
      simp only [Dm.keyOk, Bool.true_and] at ky
      obtain ⟨ks, hks, rfl⟩ := ks_val ky xa
      exact ⟨_, .inr ⟨_, _, _, .inl e1, rfl, ha, rfl⟩, lk_ERT hks e3⟩
    | _ => simp [Dm.keyOk] at ky
section
variable {X : Cx} {cm : CM} {hidn : Hdn} {ac : Acc}
theorem flat_V {g : Gd} {H : Hp} {h : Dm.Hd} {d : Dm.D} {v : V} (p : Dm.flat d = true) (x : VR g H h d v) : flatV v = true := by
  cases d with
  | non => obtain rfl := vN x; rfl
  | bl _ => obtain rfl := vB x; rfl
  | int _ => obtain rfl := vI x; rfl
  | str _ => obtain rfl := vS x; rfl
  | _ => simp [Dm.flat] at p
theorem flat_eqv {g : Gd} {H : Hp} {h : Dm.Hd} {d e : Dm.D} {v u : V} (p : Dm.flat d = true) (q : Dm.flat e = true) (x : VR g H h d v) (y : VR g H h e u) : eqV v u = Dm.eqv d e := by
  cases d with
  | non => obtain rfl := vN x; cases e with
    | non => obtain rfl := vN y; rfl
    | bl _ => obtain rfl := vB y; rfl
    | int _ => obtain rfl := vI y; rfl
    | str _ => obtain rfl := vS y; rfl
    | _ => simp [Dm.flat] at q
  | bl _ => obtain rfl := vB x; cases e with
    | non => obtain rfl := vN y; rfl
    | bl _ => obtain rfl := vB y; rfl
    | int _ => obtain rfl := vI y; rfl
    | str _ => obtain rfl := vS y; rfl
    | _ => simp [Dm.flat] at q
  | int _ => obtain rfl := vI x; cases e with
    | non => obtain rfl := vN y; rfl
    | bl _ => obtain rfl := vB y; rfl
    | int _ => obtain rfl := vI y; rfl
    | str _ => obtain rfl := vS y; rfl
    | _ => simp [Dm.flat] at q
  | str _ => obtain rfl := vS x; cases e with
    | non => obtain rfl := vN y; rfl
    | bl _ => obtain rfl := vB y; rfl
    | int _ => obtain rfl := vI y; rfl
    | str _ => obtain rfl := vS y; rfl
    | _ => simp [Dm.flat] at q
  | _ => simp [Dm.flat] at p
theorem flat_any {g : Gd} {H : Hp} {h : Dm.Hd} {x : Dm.D} {xv : V} (fx : Dm.flat x = true) (hx : VR g H h x xv) : ∀ {l : List Dm.D} {vs : List V}, (l.all Dm.flat) = true → VRs g H h l vs → vs.all flatV = true ∧ inV xv vs = l.any fun z => Dm.eqv z x
  | [], _, _, r => by unfold VRs at r; subst r; exact ⟨rfl, rfl⟩
  | d :: l, _, p, r => by
    unfold VRs at r
    obtain ⟨v, t, rfl, r1, r2⟩ := r
    rw [List.all_cons, Bool.and_eq_true] at p
    obtain ⟨h1, h2⟩ := flat_any fx hx p.2 r2
    refine ⟨by rw [List.all_cons, flat_V p.1 r1, h1]; rfl, ?_⟩
    unfold inV at h2 ⊢
    rw [List.any_cons, List.any_cons, h2, flat_eqv p.1 fx r1 hx]
theorem any_py {x : Dm.D} (px : Dm.plain 50 x = true) : ∀ {l : List Dm.D}, Dm.plainL 50 l = true → ((pyL l).any fun z => PyData.eqv z (py x)) = l.any fun z => Dm.eqv z x
  | [], _ => rfl
  | d :: l, p => by
    unfold Dm.plainL at p
    rw [Bool.and_eq_true] at p
    unfold pyL
    rw [List.any_cons, List.any_cons, any_py px p.2, py_eqv 50 50 d x p.1 px]
theorem shL {l : List Dm.D} (p : Dm.plainL 50 l = true) : SeqAt.shaped (.list (pyL l)) = true := by
  obtain ⟨a, b⟩ := py_shapedL 50 l p
  unfold SeqAt.shaped
  simp only [PyData.canLay0, PyData.depth, a, Bool.true_and]
  exact decide_eq_true (by omega)
/-- in, by values -/
theorem in_core (hu : X.A.units + 65 < cLine) (neg : Bool) : OpR X (compareOp (if neg then .NotIn else .In)) (fun x y H Q => ∃ d e h P, VR (gOf X cm hidn) H h d x ∧ VR (gOf X cm hidn) H h e y ∧ HR (gOf X cm hidn) H h ∧ Dm.oIn d e h P ∧ ∀ b h', P (.bl b) h' → h' = h → Q (.bl (if neg then !b else b)) H) := by
  intro pins s σ H x y v u Q I rx ry ⟨d, e, h, P, xd, xe, hr, q, k⟩
  have hu1 : X.A.units + 1 < cLine := by omega
  cases e with
  | tup l =>
    obtain ⟨a, vs, rfl, ha, la, xa⟩ := vT xe
    obtain ⟨f1, f2, q⟩ := q
    obtain ⟨g1, g2⟩ := flat_any f1 xd f2 xa
    cases neg with
    | false => exact op_in_seq pins s σ H _ _ v u Q I rx ry ⟨a, vs, rfl, .inr (T_of ha), flat_V f1 xd, g1, by rw [g2]; exact k _ _ q rfl⟩
    | true => exact op_notIn_seq pins s σ H _ _ v u Q I rx ry ⟨a, vs, rfl, .inr (T_of ha), flat_V f1 xd, g1, by rw [g2]; exact k _ _ q rfl⟩
  | lst l =>
    obtain ⟨a, vs, rfl, ha, _, la, xa⟩ := vL xe
    obtain ⟨f1, f2, q⟩ := q
    cases neg with
    | false => exact op_inD hu pins s σ H _ _ v u Q I rx ry ⟨_, _, py_dp 50 _ _ f1 xd, .lst (L_of ha) (py_dpL 50 _ _ f2 xa), py_sh (by decide) f1, shL f2, by rw [any_py f1 f2]; exact k _ _ q rfl⟩
    | true => exact op_notInD hu pins s σ H _ _ v u Q I rx ry ⟨_, _, py_dp 50 _ _ f1 xd, .lst (L_of ha) (py_dpL 50 _ _ f2 xa), py_sh (by decide) f1, shL f2, by rw [any_py f1 f2]; exact k _ _ q rfl⟩
  | ref a =>
    obtain rfl := vR xe
    obtain ⟨o, ho, q⟩ := q
    cases o with
    | lst l =>
      obtain ⟨vs, ha, la, xa⟩ := hr a _ ho
      obtain ⟨f1, f2, q⟩ := q
      cases neg with
      | false => exact op_inD hu pins s σ H _ _ v u Q I rx ry ⟨_, _, py_dp 50 _ _ f1 xd, .lst (L_of ha) (py_dpL 50 _ _ f2 xa), py_sh (by decide) f1, shL f2, by rw [any_py f1 f2]; exact k _ _ q rfl⟩
      | true => exact op_notInD hu pins s σ H _ _ v u Q I rx ry ⟨_, _, py_dp 50 _ _ f1 xd, .lst (L_of ha) (py_dpL 50 _ _ f2 xa), py_sh (by decide) f1, shL f2, by rw [any_py f1 f2]; exact k _ _ q rfl⟩
    | dct t l =>
      obtain ⟨ky, q⟩ := q
      obtain ⟨o, g, lk⟩ := dget_of hr ho xd ky
      have eo : o.isSome = (Dm.lkD d l).isSome := by
        cases hl : Dm.lkD d l with
        | none => rw [hl] at lk; simp only at lk; rw [lk]; rfl
        | some c => rw [hl] at lk; obtain ⟨w, rfl, _⟩ := lk; rfl
      rw [← eo] at q
      cases ry
      cases neg with
      | false => exact dA_in hu1 I g rx fun s3 I3 => ⟨.bl _, H, I3, rfl, k _ _ q rfl⟩
      | true => exact dA_notIn hu1 I g rx fun s3 I3 => ⟨.bl _, H, I3, rfl, k _ _ q rfl⟩
    | ins _ _ => exact q.elim
  | _ => exact absurd q (by simp [Dm.oIn])
theorem oIn_bl {d e : Dm.D} {h : Dm.Hd} {P : Dm.QP} (q : Dm.oIn d e h P) : Dm.oIn d e h fun z h' => P z h' ∧ h' = h := by
  cases e with
  | tup l => exact ⟨q.1, q.2.1, q.2.2, rfl⟩
  | lst l => exact ⟨q.1, q.2.1, q.2.2, rfl⟩
  | ref a =>
    obtain ⟨o, ho, q⟩ := q
    refine ⟨o, ho, ?_⟩
    cases o with
    | lst l => exact ⟨q.1, q.2.1, q.2.2, rfl⟩
    | dct t l => exact ⟨q.1, q.2, rfl⟩
    | ins _ _ => exact q.elim
  | _ => exact absurd q (by simp [Dm.oIn])
theorem dop_in (hu : X.A.units + 65 < cLine) : OpR X (compareOp .In) (LO (gOf X cm hidn) Dm.oIn) := by
  intro pins s σ H x y v u Q I rx ry ⟨d, e, h, P, xd, xe, hr, q, k⟩
  exact in_core (cm := cm) (hidn := hidn) hu false pins s σ H x y v u Q I rx ry ⟨d, e, h, P, xd, xe, hr, q, fun b h' p eh => by subst eh; exact k.here hr p xB⟩
theorem dop_notIn (hu : X.A.units + 65 < cLine) : OpR X (compareOp .NotIn) (LO (gOf X cm hidn) Dm.oNotIn) := by
  intro pins s σ H x y v u Q I rx ry ⟨d, e, h, P, xd, xe, hr, q, k⟩
  refine in_core (cm := cm) (hidn := hidn) hu true pins s σ H x y v u Q I rx ry ⟨d, e, h, _, xd, xe, hr, q, fun b h' p eh => ?_⟩
  obtain ⟨c, ec, p⟩ := p
  cases ec
  subst eh
  exact k.here hr p xB

/-! ### places -/
theorem at_of {α : Type} {xs : List α} {i : Int} {v : α} (o : Dm.ixOk xs.length i) (e : xs[Dm.ixP xs.length i]? = some v) : atI xs i = some v := by
  obtain ⟨o1, o2⟩ := o
  unfold Dm.ixP at e
  unfold atI ixN
  by_cases h : 0 ≤ i
  · rw [if_neg (by omega)] at e
    rw [if_pos h, if_pos (by omega)]
    exact e
  · rw [if_pos (by omega)] at e
    rw [if_neg h, if_pos (by omega)]
    exact e
theorem dix (hu : X.A.units + 1 < cLine) : IxR X (LO (gOf X cm hidn) Dm.oIx) := by
  intro value slice pins s σ H x y v u Q I rx ry ⟨d, e, h, P, xd, xe, hr, q, k⟩ hs
  cases d with
  | tup l =>
    obtain ⟨i, w, rfl, o, ei, q⟩ := q
    obtain ⟨a, vs, rfl, ha, la, xa⟩ := vT xd
    obtain rfl := vI xe
    obtain ⟨wv, ew, xw⟩ := xa.get ei
    exact ix_tup value slice pins s σ H _ _ v u Q I rx ry ⟨a, vs, i, wv, rfl, rfl, T_of ha, at_of (by rw [xa.len]; exact o) (by rw [xa.len]; exact ew), k.here hr q xw⟩ hs
  | lst l =>
    obtain ⟨i, w, rfl, o, ei, q⟩ := q
    obtain ⟨a, vs, rfl, ha, _, la, xa⟩ := vL xd
    obtain rfl := vI xe
    obtain ⟨wv, ew, xw⟩ := xa.get ei
    exact ix_list value slice pins s σ H _ _ v u Q I rx ry ⟨a, vs, i, wv, rfl, rfl, L_of ha, at_of (by rw [xa.len]; exact o) (by rw [xa.len]; exact ew), k.here hr q xw⟩ hs
  | scr l =>
    obtain ⟨i, w, rfl, o, ei, q⟩ := q
    have xd' := xd
    unfold VR at xd'
    obtain ⟨a, vs, rfl, ha, la, xa⟩ := xd'
    obtain rfl := vI xe
    obtain ⟨wv, ew, xw⟩ := xa.get ei
    exact ix_list value slice pins s σ H _ _ v u Q I rx ry ⟨a, vs, i, wv, rfl, rfl, ha.sql, at_of (by rw [xa.len]; exact o) (by rw [xa.len]; exact ew), k.here hr q xw⟩ hs
  | str z =>
    obtain ⟨i, c, rfl, hz, o, ei, q⟩ := q
    obtain rfl := vS xd
    obtain rfl := vI xe
    exact ix_str value slice pins s σ H _ _ v u Q I rx ry ⟨z, i, c, rfl, rfl, Nat.le_trans hz lim_size, at_of o ei, k.here hr q xS⟩ hs
  | ref a =>
    obtain ⟨o, ho, q⟩ := q
    obtain rfl := vR xd
    cases o with
    | lst l =>
      obtain ⟨vs, ha, la, xa⟩ := hr a _ ho
      obtain ⟨i, w, rfl, o, ei, q⟩ := q
      obtain rfl := vI xe
      obtain ⟨wv, ew, xw⟩ := xa.get ei
      exact ix_list value slice pins s σ H _ _ v u Q I rx ry ⟨a, vs, i, wv, rfl, rfl, L_of ha, at_of (by rw [xa.len]; exact o) (by rw [xa.len]; exact ew), k.here hr q xw⟩ hs
    | dct t l =>
      obtain ⟨w, ky, lk, q⟩ := q
      obtain ⟨o, g, lk'⟩ := dget_of hr ho xe ky
      rw [lk] at lk'
      obtain ⟨wv, rfl, xw⟩ := lk'
      cases rx
      exact tail_any (dictA_typeIs I g) PySem.F.slot_dict_getitem.lookup (dA_getItem hu I g ry fun w' s3 I3 rw' => ⟨wv, H, I3, rw', k.here hr q xw⟩) hs
    | ins _ _ => exact q.elim
  | _ => exact absurd q (by simp [Dm.oIx])
theorem de_ix {a b : Expr} {pos : Pos} {t u : Dm.TE} (hu : X.A.units + 1 < cLine) (ha : PE X a (LE (gOf X cm hidn) ac t)) (hb : PE X b (LE (gOf X cm hidn) ac u)) (hs : PlainIx b := by exact fun _ _ => rfl) :
    PE X (.Subscript a b pos) (LE (gOf X cm hidn) ac (Dm.eBin Dm.oIx t u)) := (pe_ix (dix hu) ha hb hs).imp fun _ _ _ q => q.bin
/-! ### slices -/
theorem clamp_sIx (n d : Nat) (o : Option Int) : HT.sIx n d o = Dm.clampP n d o := by
  cases o with
  | none => rfl
  | some i => rfl
theorem cut_V {vs : List V} {lo hi : Option Int} : cutV vs lo hi = Dm.cutP vs lo hi := by
  unfold cutV Dm.cutP
  rw [clamp_sIx, clamp_sIx]
theorem VRs.cut {g : Gd} {H : Hp} {h : Dm.Hd} {l : List Dm.D} {vs : List V} (x : VRs g H h l vs) (lo hi : Option Int) : VRs g H h (Dm.cutP l lo hi) (Dm.cutP vs lo hi) := by
  unfold Dm.cutP
  rw [x.len]
  exact (x.drop _).take _
theorem cut_len {α : Type} (l : List α) (lo hi : Option Int) : (Dm.cutP l lo hi).length ≤ l.length := by
  unfold Dm.cutP
  rw [List.length_take, List.length_drop]
  omega
def oCut (lo hi : Option Int) : Dm.D → Dm.Hd → Dm.QP → Prop := fun x h Q => match x with
  | .tup xs => Q (.tup (Dm.cutP xs lo hi)) h
  | x => ∃ xs, Dm.sqL h x = some xs ∧ Q (.lst (Dm.cutP xs lo hi)) h
theorem dsl : SlR X (fun x lo hi H Q => LU (gOf X cm hidn) (oCut lo hi) x H Q) := by
  intro pins s σ H x v vl vu lo hi sl Q I rx hs pl pu ⟨d, h, P, xd, hr, q, k⟩
  have lst : ∀ {a : Addr} {l : List Dm.D} {vs : List V}, x = .ref a → H a = some (.lst vs) → l.length ≤ sizeLine → VRs (gOf X cm hidn) H h l vs → P (.lst (Dm.cutP l lo hi)) h →
      rSlL X.K x lo hi H Q := fun {a l vs} ex ha la xa q => by
    subst ex
    refine ⟨a, vs, rfl, L_of ha, fun p n => ?_⟩
    rw [cut_V]
    exact k.lst hr q (xa.cut lo hi) (Nat.le_trans (cut_len l lo hi) la) n
  cases d with
  | tup l =>
    obtain ⟨a, vs, rfl, ha, la, xa⟩ := vT xd
    refine sl_tupA pins s σ H _ v vl vu lo hi sl Q I rx hs pl pu ⟨a, vs, rfl, T_of ha, fun e => ?_, fun e p n => ?_⟩
    · rw [clamp_sIx, clamp_sIx] at e
      have q : P (.tup (Dm.cutP l lo hi)) h := q
      have : Dm.cutP l lo hi = l := by
        unfold Dm.cutP
        rw [← xa.len, e.1, e.2, xa.len]
        simp
      rw [this] at q
      exact k.here hr q xd
    · rw [cut_V]
      exact k.tup hr q (xa.cut lo hi) (Nat.le_trans (cut_len l lo hi) la) n
  | lst l =>
    obtain ⟨a, vs, rfl, ha, _, la, xa⟩ := vL xd
    obtain ⟨xs, e, q⟩ := q
    cases e
    exact sl_list pins s σ H _ v vl vu lo hi sl Q I rx hs pl pu (lst rfl ha la xa q)
  | ref a =>
    obtain rfl := vR xd
    obtain ⟨xs, e, q⟩ := q
    obtain ⟨a', vs, ea, ha, la, xa⟩ := sqL_at hr xd e
    cases ea
    exact sl_list pins s σ H _ v vl vu lo hi sl Q I rx hs pl pu (lst rfl ha la xa q)
  | _ => (obtain ⟨xs, e, q⟩ := q; simp [Dm.sqL] at e)
/-- a part of a slice -/
inductive PtOk (X : Cx) (cm : CM) (hidn : Hdn) (ac : Acc) : Option Expr → Option Dm.TE → Prop where
  | none : PtOk X cm hidn ac none none
  | some {e : Expr} {t : Dm.TE} : PE X e (LE (gOf X cm hidn) ac t) → PtOk X cm hidn ac (some e) (some t)
def ptT : Option Dm.TE → Dm.St → Dm.Hd → Dm.XP → (Option Int → Dm.Hd → Prop) → Prop
  | none => fun _ h _ k => k none h
  | some e => fun s h E k => e s h E fun y h1 => ∃ i, y = Dm.D.int i ∧ k (some i) h1
theorem eSl_eq (a : Dm.TE) (lo hi : Option Dm.TE) : Dm.eSl a lo hi = fun s h E Q => a s h E fun x h1 => ptT lo s h1 E fun l h2 => ptT hi s h2 E fun r h3 => oCut l r x h3 Q := by
  funext s h E Q
  unfold Dm.eSl
  cases lo <;> cases hi <;> rfl
theorem pt_ok {lo : Option Expr} {tl : Option Dm.TE} (p : PtOk X cm hidn ac lo tl) : PO X lo (fun σ H Q => ∃ s h E P, SR (gOf X cm hidn) H h s σ ∧ HR (gOf X cm hidn) H h ∧ ac.ok h H σ E ∧ ptT tl s h E P ∧ ∀ o h' H', P o h' → Stp h H h' H' → HR (gOf X cm hidn) H' h' → Q o H') := by
  cases p with
  | none => exact ⟨fun pins s σ H Q I ⟨_, h, E, P, sr, hr, hac, q, k⟩ => po_none.run pins s σ H Q I (k none h H q (Stp.refl _ _) hr)⟩
  | some pe =>
    refine ⟨fun pins s σ H Q I ⟨ss, h, E, P, sr, hr, hac, q, k⟩ => (po_some pe).run pins s σ H Q I ?_⟩
    refine ⟨ss, h, E, _, sr, hr, hac, q, fun d h1 v H1 q1 s1 r1 x1 => ?_⟩
    obtain ⟨i, rfl, q1⟩ := q1
    exact ⟨i, vI x1, k _ _ _ q1 s1 r1⟩
theorem de_sl {a : Expr} {lo hi : Option Expr} {p2 pos : Pos} {t : Dm.TE} {tl th : Option Dm.TE} (ha : PE X a (LE (gOf X cm hidn) ac t)) (hl : PtOk X cm hidn ac lo tl) (hh : PtOk X cm hidn ac hi th) :
    PE X (.Subscript a (.Slice lo hi none p2) pos) (LE (gOf X cm hidn) ac (Dm.eSl t tl th)) := (pe_slice (dsl (cm := cm) (hidn := hidn)) ha (pt_ok hl) (pt_ok hh)).imp fun σ H Q ⟨s, h, E, P, sr, hr, hac, q, k⟩ => by
  rw [eSl_eq] at q
  refine ⟨s, h, E, _, sr, hr, hac, q, fun d h1 v H1 q1 s1 r1 x1 => ?_⟩
  refine ⟨s, h1, E, _, sr.stp hr s1, r1, ac.stp hac s1, q1, fun l h2 H2 q2 s2 r2 => ?_⟩
  have s12 := s1.trans s2
  refine ⟨s, h2, E, _, sr.stp hr s12, r2, ac.stp hac s12, q2, fun r h3 H3 q3 s3 r3 => ?_⟩
  exact ⟨d, h3, P, VR.stp r1 (s2.trans s3) d v x1, r3, q3, EndE.stp k (s12.trans s3)⟩
/-! ### displays -/
theorem de_tup {es : List Expr} {pos : Pos} {k1 : _} {t : Dm.TA} (ha : PA X es (LA (gOf X cm hidn) ac t)) : PE X (.Tuple es k1 pos) (LE (gOf X cm hidn) ac (Dm.eTup t)) := (pe_tup ha).imp fun σ H Q ⟨s, h, E, P, sr, hr, hac, q, k⟩ =>
  ⟨s, h, E, _, sr, hr, hac, q, fun ds h1 vs H1 ⟨z, q1⟩ s1 r1 x1 => ⟨by rw [x1.len]; exact Nat.le_trans z lim_size, fun p n => (EndE.stp k s1).tup r1 q1 x1 (Nat.le_trans z lim_size) n⟩⟩
theorem de_lst {es : List Expr} {pos : Pos} {t : Dm.TA} (ha : PA X es (LA (gOf X cm hidn) ac t)) : PE X (.List es pos) (LE (gOf X cm hidn) ac (Dm.eLst t)) := (pe_lst ha).imp fun σ H Q ⟨s, h, E, P, sr, hr, hac, q, k⟩ =>
  ⟨s, h, E, _, sr, hr, hac, q, fun ds h1 vs H1 ⟨z, q1⟩ s1 r1 x1 => ⟨by rw [x1.len]; exact Nat.le_trans z lim_size, fun p n => (EndE.stp k s1).lst r1 q1 x1 (Nat.le_trans z lim_size) n⟩⟩
theorem de_lstH {es : List Expr} {pos : Pos} {t : Dm.TA} (ha : PA X es (LA (gOf X cm hidn) ac t)) : PE X (.List es pos) (LE (gOf X cm hidn) ac (Dm.eLstH t)) := (pe_lst ha).imp fun σ H Q ⟨s, h, E, P, sr, hr, hac, q, k⟩ =>
  ⟨s, h, E, _, sr, hr, hac, q, fun ds h1 vs H1 ⟨z, q1⟩ s1 r1 x1 => ⟨by rw [x1.len]; exact Nat.le_trans z lim_size, fun p n => (EndE.stp k s1).lstH r1 q1 x1 (Nat.le_trans z lim_size) n⟩⟩
/-- {} -/
theorem de_dnew {pos : Pos} (tk : Bool) : PE X (.Dict [] [] pos) (LE (gOf X cm hidn) ac (Dm.eDnew tk)) := by
  cases tk with
  | false =>
    refine pe_dnewK.imp fun σ H Q ⟨s, h, E, P, sr, hr, hac, q, k⟩ p n => ?_
    exact k _ _ _ _ (q p (hr.off n)) (Stp.newUp n) (hr.newUp n ⟨[], upd_same, Nat.zero_le _, by unfold ER; rfl⟩) xR
  | true =>
    refine pe_dnewT.imp fun σ H Q ⟨s, h, E, P, sr, hr, hac, q, k⟩ p n => ?_
    exact k _ _ _ _ (q p (hr.off n)) (Stp.newUp n) (hr.newUp n ⟨[], upd_same, Nat.zero_le _, by unfold ERT; rfl⟩) xR
/-! ### fields -/
theorem toNat_inj {a b : Char} (h : a.toNat = b.toNat) : a = b := by
  apply Char.ext
  apply UInt32.toNat.inj
  exact h
theorem map_toNat_inj : ∀ {a b : List Char}, a.map Char.toNat = b.map Char.toNat → a = b
  | [], [], _ => rfl
  | [], _ :: _, h => by simp at h
  | _ :: _, [], h => by simp at h
  | x :: a, y :: b, h => by
    simp only [List.map_cons, List.cons.injEq] at h
    rw [toNat_inj h.1, map_toNat_inj h.2]
theorem ofString_inj {a b : String} (h : Str.ofString a = Str.ofString b) : a = b := by
  have h1 : (PySem.cpsOfBytes 0 0 a.toByteArray.data.toList) = (PySem.cpsOfBytes 0 0 b.toByteArray.data.toList) := by
    have := congrArg (fun z : Str => z.cps.toList) h
    simpa [Str.ofString] using this
  rw [PySem.cpsOfBytes_string, PySem.cpsOfBytes_string] at h1
  exact String.toList_inj.mp (map_toNat_inj h1)
theorem beq_ofString (a b : String) : (Str.ofString a == Str.ofString b) = decide (a = b) := by
  by_cases h : a = b
  · subst h; simp
  · rw [decide_eq_false h]
    exact beq_eq_false_iff_ne.mpr fun e => h (ofString_inj e)
theorem lk_FR {g : Gd} {H : Hp} {h : Dm.Hd} {f : String} : ∀ {l : List (String × Dm.D)} {gs : List (Str × V)}, FR g H h l gs →
    (match Dm.lkF f l with
      | none => gs.lookup (Str.ofString f) = none
      | some d => ∃ v, gs.lookup (Str.ofString f) = some v ∧ VR g H h d v)
  | [], _, r => by unfold FR at r; subst r; simp [Dm.lkF]
  | (b, e) :: l, _, r => by
    unfold FR at r
    obtain ⟨v, t, rfl, r1, r2⟩ := r
    have ih := lk_FR (f := f) r2
    unfold Dm.lkF
    rw [List.lookup_cons, beq_ofString]
    by_cases hq : b = f
    · subst hq
      rw [if_pos rfl, decide_eq_true rfl]
      exact ⟨v, rfl, r1⟩
    · rw [if_neg hq, decide_eq_false (fun e => hq e.symm)]
      exact ih
theorem put_FR {g : Gd} {H : Hp} {h : Dm.Hd} {f : String} {d : Dm.D} {v : V} (x : VR g H h d v) : ∀ {l : List (String × Dm.D)} {gs : List (Str × V)}, FR g H h l gs → FR g H h (Dm.putF f d l) (L2.putF (Str.ofString f) v gs)
  | [], _, r => by
    unfold FR at r
    subst r
    show FR g H h [(f, d)] [(Str.ofString f, v)]
    unfold FR
    exact ⟨v, [], rfl, x, by unfold FR; rfl⟩
  | (b, e) :: l, _, r => by
    unfold FR at r
    obtain ⟨u, t, rfl, r1, r2⟩ := r
    have ih := put_FR (f := f) x r2
    show FR g H h (if b = f then (b, d) :: l else (b, e) :: Dm.putF f d l) (if Str.ofString b = Str.ofString f then (Str.ofString b, v) :: t else (Str.ofString b, u) :: L2.putF (Str.ofString f) v t)
    by_cases hq : b = f
    · subst hq
      rw [if_pos rfl, if_pos rfl]
      unfold FR
      exact ⟨v, t, rfl, x, r2⟩
    · rw [if_neg hq, if_neg fun e => hq (ofString_inj e)]
      unfold FR
      exact ⟨u, _, rfl, r1, ih⟩
theorem FR.len {g : Gd} {H : Hp} {h : Dm.Hd} : ∀ {l : List (String × Dm.D)} {gs : List (Str × V)}, FR g H h l gs → gs.length = l.length
  | [], _, r => by unfold FR at r; subst r; rfl
  | (b, e) :: l, _, r => by
    unfold FR at r
    obtain ⟨u, t, rfl, r1, r2⟩ := r
    rw [List.length_cons, List.length_cons, r2.len]
theorem de_fld {e : Expr} {pos : Pos} {t : Dm.TE} {f : String} (c : String) (hc : Cls X.K (cm c)) (hn : NoAttr X.K (cm c) (Str.ofString f)) (he : PE X e (LE (gOf X cm hidn) ac t)) (hb : attributeBase e (Str.ofString f) X.env (eval e X.env) = eval e X.env := by rfl) :
    PE X (.Attribute e (Str.ofString f) pos) (LE (gOf X cm hidn) ac (Dm.eFld c t f)) := (pe_fld he hb).imp fun σ H Q ⟨s, h, E, P, sr, hr, hac, q, k⟩ => by
  refine ⟨s, h, E, _, sr, hr, hac, q, fun d h1 v H1 ⟨p, fs, w, ed, hp, lk, q1⟩ s1 r1 x1 => ?_⟩
  subst ed
  obtain rfl := vR x1
  obtain ⟨dx, gs, e1, e2⟩ := r1 p _ hp
  have l := lk_FR (f := f) e2
  rw [lk] at l
  obtain ⟨wv, l1, l2⟩ := l
  exact ⟨p, cm c, dx, gs, wv, rfl, e1, hc, hn, l1, k _ _ _ _ q1 s1 r1 l2⟩
/-! ### calls -/
/-- an exception as the layer has it -/
def XR (g : Gd) (e : Dm.Ex) (cls : Value) (d : Option Addr) (H : Hp) (h : Dm.Hd) : Prop := cls = .ref (g.cm e.cls) ∧ (e.args = [] → d = none) ∧
  (e.args ≠ [] → ∃ dd gs, d = some dd ∧ ¬ g.hid dd ∧ h dd = none ∧ H dd = some (.xd gs) ∧ FX (e.args.map (·.1)) (e.args.map (·.2)) gs)
/-- a promise about data as one about values -/
def LSp (g : Gd) (sp : Dm.Sp) : L2.Sp := fun vs H Q E => ∃ hidn ds h PE P, VRs { g with hid := hidn } H h ds vs ∧ HR { g with hid := hidn } H h ∧ sp ds h PE P ∧ EndE { g with hid := hidn } h H P Q ∧
  ∀ e h' cls d H', PE e h' → Stp h H h' H' → HR { g with hid := hidn } H' h' → XR { g with hid := hidn } e cls d H' h' → E cls d H'
/-- the wish about exceptions, for a call -/
def CallAc (g : Gd) (ac : Acc) (sp : Dm.Sp) (E : XK) : Prop := ∀ ds h0 PE P, sp ds h0 PE P → ∃ PE' : Dm.XP, sp ds h0 PE' P ∧ ∀ h H σ, ac.ok h H σ PE → ∀ e h' cls d H', PE' e h' → Stp h H h' H' → HR g H' h' → XR g e cls d H' h' → E cls d H'
theorem callAc0 {g : Gd} {sp : Dm.Sp} {E : XK} : CallAc g acc0 sp E := fun _ _ PE _ q => ⟨PE, q, fun _ _ _ a e h' _ _ _ p _ _ _ => (a e h' p).elim⟩
/-- a callee that lets nothing out -/
theorem callAcN {g : Gd} {ac : Acc} {sp : Dm.Sp} {E : XK} (nx : ∀ ds h E Q, sp ds h E Q → sp ds h (fun _ _ => False) Q) : CallAc g ac sp E := fun _ _ PE _ q => ⟨fun _ _ => False, nx _ _ _ _ q, fun _ _ _ _ _ _ _ _ _ p _ _ _ => p.elim⟩
variable {CX : CXT} {n : Nat} {f : Addr} {fd : FuncData} {ps : List Str} {sp : Dm.Sp} {E : XK} {x : Str} {p pos apos : Pos}
theorem LA.call {t : Dm.TA} (cc : CallAc (gOf X cm hidn) ac sp E) {σ : L2.St} {H : Hp} {Q : VK} (q : LE (gOf X cm hidn) ac (Dm.eCall sp t) σ H Q) : L2.tCall (LSp (gOf X cm hidn) sp) [] E (LA (gOf X cm hidn) ac t) σ H Q := by
  obtain ⟨s, h, PE, P, sr, hr, hac, q, k⟩ := q
  refine ⟨s, h, PE, _, sr, hr, hac, q, fun ds h1 vs H1 q1 s1 r1 x1 => ?_⟩
  show LSp (gOf X cm hidn) sp (vs ++ []) H1 Q E
  rw [List.append_nil]
  obtain ⟨PE', q1', c1⟩ := cc _ _ _ _ q1
  exact ⟨hidn, ds, h1, PE', P, x1, r1, q1', EndE.stp k s1, fun e h' cls d H' pe s' r' ww => c1 h H σ hac e h' cls d H' pe (s1.trans s') r' ww⟩
theorem de_call {e : Expr} {es : List Expr} {t : Dm.TA} (F : FnOk X.prog X.w X.K X.mg X.base CX n f fd ps (LSp (gOf X cm hidn) sp)) (hr : Room n X.A) (hm : X.mg x = some (.ref f)) (hk : PySem.W.keepIn X.K (.ref f) = true) (hb : Binds X.K fd ps []) (hx : Passes CX X E) (cc : CallAc (gOf X cm hidn) ac sp E)
    (ha : PA X (e :: es) (LA (gOf X cm hidn) ac t)) (hg : Gl X x := by rfl) (hdb : (x == ("__debug__" : Str)) = false := by decide) (he : starEach (e :: es) X.env = (false, eval e X.env) :: starEach es X.env := by rfl) (hpl : (backTo pos (starEach es X.env)).any (·.1) = false := by rfl) :
    PE X (.Call (.Name x p) (e :: es) [] pos) (LE (gOf X cm hidn) ac (Dm.eCall sp t)) := (pe_call F hr hg hm hk hb .nil hx ha hdb he hpl).imp fun _ _ _ q => LA.call cc q
theorem de_meth {o e : Expr} {es : List Expr} {m : String} {c : String} {to : Dm.TE} {t : Dm.TA} {pl : Sem Bool} (ho : PE X o (LE (gOf X cm hidn) ac to)) (hc : Cls X.K (cm c)) (hm : Meth X.K (cm c) (Str.ofString m) f) (F : FnOk X.prog X.w X.K X.mg X.base CX n f fd ps (LSp (gOf X cm hidn) sp)) (hr : Room n X.A) (hb : Binds X.K fd ps []) (hx : Passes CX X E)
    (cc : CallAc (gOf X cm hidn) ac sp E) (ha : PA X (e :: es) (LA (gOf X cm hidn) ac t)) (hst : starEach (e :: es) X.env = (false, eval e X.env) :: starEach es X.env := by rfl) (hpl : (backTo pos (starEach es X.env)).any (·.1) = false := by rfl)
    (ht : eval (.Call (.Attribute o (Str.ofString m) apos) (e :: es) [] pos) X.env = (do
      let ov ← eval o X.env
      standAt apos.atName
      let (f, first) ← holding [ov] (getMethod ov (Str.ofString m) pl)
      callWith pos f first (backTo pos (starEach (e :: es) X.env)) (backToKw pos (keywordEach [] X.env))) := by rfl) :
    PE X (.Call (.Attribute o (Str.ofString m) apos) (e :: es) [] pos) (LE (gOf X cm hidn) ac (Dm.eMeth c m sp to t)) :=
  (pe_meth (pl := pl) ho hc hm F hr hb .nil hx ha hst hpl ht).imp fun σ H Q ⟨s, h, PE, P, sr, hr, hac, q, k⟩ => by
    refine ⟨s, h, PE, _, sr, hr, hac, q, fun d h1 v H1 ⟨p, fs, ed, hp, lk, q1⟩ s1 r1 x1 => ?_⟩
    subst ed
    obtain rfl := vR x1
    obtain ⟨dx, gs, e1, e2⟩ := r1 p _ hp
    have l := lk_FR (f := m) e2
    rw [lk] at l
    refine ⟨p, dx, gs, rfl, e1, l, s, h1, PE, _, sr.stp hr s1, r1, ac.stp hac s1, q1, fun ds h2 vs H2 q2 s2 r2 x2 => ?_⟩
    show LSp (gOf X cm hidn) sp (V.ref p :: (vs ++ [])) H2 Q E
    rw [List.append_nil]
    have s12 := s1.trans s2
    obtain ⟨PE', q2', c1⟩ := cc _ _ _ _ q2
    exact ⟨hidn, .ref p :: ds, h2, PE', P, .cons xR x2, r2, q2', EndE.stp k s12, fun e h' cls d H' pe s' r' ww => c1 h H σ hac e h' cls d H' pe (s12.trans s') r' ww⟩
theorem de_meth0 {o : Expr} {m : String} {c : String} {to : Dm.TE} {pl : Sem Bool} (ho : PE X o (LE (gOf X cm hidn) ac to)) (hc : Cls X.K (cm c)) (hm : Meth X.K (cm c) (Str.ofString m) f) (F : FnOk X.prog X.w X.K X.mg X.base CX n f fd ps (LSp (gOf X cm hidn) sp)) (hr : Room n X.A) (hb : Binds X.K fd ps []) (hx : Passes CX X E)
    (cc : CallAc (gOf X cm hidn) ac sp E)
    (ht : eval (.Call (.Attribute o (Str.ofString m) apos) [] [] pos) X.env = (do
      let ov ← eval o X.env
      standAt apos.atName
      let (f, first) ← holding [ov] (getMethod ov (Str.ofString m) pl)
      callWith pos f first (backTo pos (starEach [] X.env)) (backToKw pos (keywordEach [] X.env))) := by rfl) :
    PE X (.Call (.Attribute o (Str.ofString m) apos) [] [] pos) (LE (gOf X cm hidn) ac (Dm.eMeth c m sp to Dm.aNil)) :=
  (pe_meth0 (pl := pl) ho hc hm F hr hb .nil hx ht).imp fun σ H Q ⟨s, h, PE, P, sr, hr, hac, q, k⟩ => by
    refine ⟨s, h, PE, _, sr, hr, hac, q, fun d h1 v H1 ⟨p, fs, ed, hp, lk, q1⟩ s1 r1 x1 => ?_⟩
    subst ed
    obtain rfl := vR x1
    obtain ⟨dx, gs, e1, e2⟩ := r1 p _ hp
    have l := lk_FR (f := m) e2
    rw [lk] at l
    obtain ⟨PE', q1', c1⟩ := cc _ _ _ _ q1
    exact ⟨p, dx, gs, rfl, e1, l, hidn, [.ref p], h1, PE', P, .cons xR .nil, r1, q1', EndE.stp k s1, fun e h' cls d H' pe s' r' ww => c1 h H σ hac e h' cls d H' pe (s1.trans s') r' ww⟩
theorem de_make {e : Expr} {es : List Expr} {c : String} {t : Dm.TA} (M : Mk X.K (cm c) f) (F : FnOk X.prog X.w X.K X.mg X.base CX n f fd ps (LSp (gOf X cm hidn) sp)) (hr : Room (n + 1) X.A) (hm : X.mg x = some (.ref (cm c))) (hb : Binds X.K fd ps []) (hx : Passes CX X E) (cc : CallAc (gOf X cm hidn) ac sp E)
    (ha : PA X (e :: es) (LA (gOf X cm hidn) ac t)) (hg : Gl X x := by rfl) (hdb : (x == ("__debug__" : Str)) = false := by decide) (he : starEach (e :: es) X.env = (false, eval e X.env) :: starEach es X.env := by rfl) (hpl : (backTo pos (starEach es X.env)).any (·.1) = false := by rfl) :
    PE X (.Call (.Name x p) (e :: es) [] pos) (LE (gOf X cm hidn) ac (Dm.eMake c sp t)) := (pe_make M F hr hg hm hb .nil hx ha hdb he hpl).imp fun σ H Q ⟨s, h, PE, P, sr, hr, hac, q, k⟩ => by
  refine ⟨s, h, PE, _, sr, hr, hac, q, fun ds h1 vs H1 q1 s1 r1 x1 a dx na ndx ne => ?_⟩
  show LSp (gOf X cm hidn) sp (V.ref a :: (vs ++ [])) (upd (upd H1 dx (.own a)) a (.ins (cm c) dx [])) (fun v H2 => v = .non ∧ Q (.ref a) H2) E
  rw [List.append_nil]
  have n2 : upd H1 dx (.own a) a = none := by rw [upd_ne (Ne.symm ne)]; exact na
  have st1 : Stp h1 H1 h1 (upd H1 dx (.own a)) := Stp.new ndx
  have rr := r1.new (u := .own a) ndx
  have st2 : Stp h1 (upd H1 dx (.own a)) (Dm.up h1 a (.ins c [])) (upd (upd H1 dx (.own a)) a (.ins (cm c) dx [])) := Stp.newUp n2
  have st := st1.trans st2
  obtain ⟨PE', q1', c1⟩ := cc _ _ _ _ (q1 a (r1.off na))
  refine ⟨hidn, .ref a :: ds, _, PE', _, .cons xR (VRs.stp rr st2 _ _ (VRs.stp r1 st1 _ _ x1)), rr.newUp n2 ⟨dx, [], upd_same, by unfold FR; rfl⟩, q1', fun d h' v H' ⟨ed, q'⟩ s' r' x' => ?_, fun e h' cls d H' pe s' r' ww => c1 h H σ hac e h' cls d H' pe ((s1.trans st).trans s') r' ww⟩
  subst ed
  exact ⟨vN x', k _ _ _ _ q' ((s1.trans st).trans s') r' xR⟩
end
end Dr
end S_DExp
section S_DStm
set_option Elab.async false
set_option linter.all false
set_option maxRecDepth 100000
set_option maxHeartbeats 1000000
/-! DStm: statements, targets, loops, comprehensions, defs. -/
namespace Dr
open PySem PySem.Spec PyProof.Rows L2
/-- behind a statement -/
structure EndS (g : Gd) (ac : Acc) (h : Dm.Hd) (H : Hp) (P : Dm.En) (D : Ends) : Prop where
  nx : ∀ s' h' σ' H', P.nx s' h' → Stp h H h' H' → HR g H' h' → SR g H' h' s' σ' → D.nx σ' H'
  bk : ∀ s' h' σ' H', P.bk s' h' → Stp h H h' H' → HR g H' h' → SR g H' h' s' σ' → D.bk σ' H'
  ct : ∀ s' h' σ' H', P.ct s' h' → Stp h H h' H' → HR g H' h' → SR g H' h' s' σ' → D.ct σ' H'
  rt : ∀ d h' v H', P.rt d h' → Stp h H h' H' → HR g H' h' → VR g H' h' d v → D.rt v H'
  ex : ∀ s' h' σ' H', Stp h H h' H' → HR g H' h' → SR g H' h' s' σ' → ac.ok h' H' σ' fun e z => P.ex e s' z
def LS (g : Gd) (ac : Acc) (t : Dm.TS) : L2.TS := fun D σ H => ∃ s h P, SR g H h s σ ∧ HR g H h ∧ t P s h ∧ EndS g ac h H P D
theorem EndS.stp {g : Gd} {ac : Acc} {h h1 : Dm.Hd} {H H1 : Hp} {P : Dm.En} {D : Ends} (e : EndS g ac h H P D) (s : Stp h H h1 H1) : EndS g ac h1 H1 P D :=
  ⟨fun a b c d q s' => e.nx a b c d q (s.trans s'), fun a b c d q s' => e.bk a b c d q (s.trans s'), fun a b c d q s' => e.ct a b c d q (s.trans s'), fun a b c d q s' => e.rt a b c d q (s.trans s'), fun a b c d s' => e.ex a b c d (s.trans s')⟩
/-- how a target may change the slots -/
structure Slt where
  r : L2.St → L2.St → Prop
  refl : ∀ a, r a a
  trans : ∀ {a b c}, r a b → r b c → r a c
def anyS : Slt := ⟨fun _ _ => True, fun _ => trivial, fun _ _ => trivial⟩
def LG (g : Gd) (ac : Acc) (R : Slt) (t : Dm.TG) : L2.TG := fun v σ H Q => ∃ d s h E P, VR g H h d v ∧ SR g H h s σ ∧ HR g H h ∧ (∀ s' h' σ' H', Stp h H h' H' → HR g H' h' → SR g H' h' s' σ' → ac.ok h' H' σ' E) ∧ t d s h E P ∧
  ∀ s' h' σ' H', P s' h' → Stp h H h' H' → HR g H' h' → SR g H' h' s' σ' → R.r σ σ' → Q σ' H'
def LGs (g : Gd) (ac : Acc) (R : Slt) (t : Dm.TGs) : L2.TGs := fun vs σ H Q => ∃ ds s h E P, VRs g H h ds vs ∧ SR g H h s σ ∧ HR g H h ∧ (∀ s' h' σ' H', Stp h H h' H' → HR g H' h' → SR g H' h' s' σ' → ac.ok h' H' σ' E) ∧ t ds s h E P ∧
  ∀ s' h' σ' H', P s' h' → Stp h H h' H' → HR g H' h' → SR g H' h' s' σ' → R.r σ σ' → Q σ' H'
theorem _root_.L2.PG.imp {X : Cx} {e : Expr} {t t' : L2.TG} (p : PG X e t) (h : ∀ v σ H Q, t' v σ H Q → t v σ H Q) : PG X e t' := ⟨fun pins s σ H v u Q I r q => p.run pins s σ H v u Q I r (h _ _ _ _ q)⟩
theorem _root_.L2.PGs.imp {X : Cx} {e : List Expr} {t t' : L2.TGs} (p : PGs X e t) (h : ∀ v σ H Q, t' v σ H Q → t v σ H Q) : PGs X e t' := ⟨fun pins s σ H v u Q I r q => p.run pins s σ H v u Q I r (h _ _ _ _ q)⟩
section
variable {X : Cx} {cm : CM} {hidn : Hdn} {ac : Acc} {R : Slt}
/-! ### blocks -/
theorem dss_nil : PSs X [] (LS (gOf X cm hidn) ac Dm.sNext) := pss_nil.imp fun D σ H ⟨s, h, P, sr, hr, q, k⟩ => k.nx s h σ H q (Stp.refl _ _) hr sr
theorem LS.seq {t u : Dm.TS} {D : Ends} {σ : L2.St} {H : Hp} (q : LS (gOf X cm hidn) ac (Dm.sSeq t u) D σ H) : L2.tSeq (LS (gOf X cm hidn) ac t) (LS (gOf X cm hidn) ac u) D σ H := by
  obtain ⟨s, h, P, sr, hr, q, k⟩ := q
  exact ⟨s, h, { P with nx := u P }, sr, hr, q, ⟨fun s' h' σ' H' q' s1 r1 sr1 => ⟨s', h', P, sr1, r1, q', k.stp s1⟩, k.bk, k.ct, k.rt, k.ex⟩⟩
theorem dss_cons {st : Stmt} {rest : List Stmt} {t u : Dm.TS} (h1 : PS X st (LS (gOf X cm hidn) ac t)) (h2 : PSs X rest (LS (gOf X cm hidn) ac u)) : PSs X (st :: rest) (LS (gOf X cm hidn) ac (Dm.sSeq t u)) := (pss_cons h1 h2).imp fun _ _ _ q => q.seq
theorem dss_one {st : Stmt} {t : Dm.TS} (h1 : PS X st (LS (gOf X cm hidn) ac t)) : PSs X [st] (LS (gOf X cm hidn) ac t) := pss_one h1
/-- the list in slot i is let go ahead of the rest -/
theorem dss_frz {rest : List Stmt} (i : Nat) {u : Dm.TS} (h2 : PSs X rest (LS (gOf X cm hidn) ac u)) : PSs X rest (LS (gOf X cm hidn) ac (Dm.sSeq (Dm.sFrz i) u)) := h2.imp fun D σ H ⟨s, h, P, sr, hr, ⟨p, l, e1, e2, q⟩, k⟩ => by
  obtain ⟨v, e3, x⟩ := sr.get e1
  obtain rfl := vR x
  have st : Stp h H (Dm.rm h p) H := Stp.sub (sub_rm h p)
  exact ⟨_, _, P, (sr.stp hr st).same i e3 (frz hr e2), hr.sub (sub_rm h p), q, k.stp st⟩
/-! ### small statements -/
theorem ds_pass {pos : Pos} : PS X (.Pass pos) (LS (gOf X cm hidn) ac Dm.sNext) := ps_pass.imp fun D σ H ⟨s, h, P, sr, hr, q, k⟩ => k.nx s h σ H q (Stp.refl _ _) hr sr
theorem ds_break {pos : Pos} : PS X (.Break pos) (LS (gOf X cm hidn) ac Dm.sBreak) := ps_break.imp fun D σ H ⟨s, h, P, sr, hr, q, k⟩ => k.bk s h σ H q (Stp.refl _ _) hr sr
theorem ds_cont {pos : Pos} : PS X (.Continue pos) (LS (gOf X cm hidn) ac Dm.sCont) := ps_continue.imp fun D σ H ⟨s, h, P, sr, hr, q, k⟩ => k.ct s h σ H q (Stp.refl _ _) hr sr
theorem LE.mk {t : Dm.TE} {σ : L2.St} {H : Hp} {Q : VK} {s : Dm.St} {h : Dm.Hd} {E : Dm.XP} {P : Dm.QP} (sr : SR (gOf X cm hidn) H h s σ) (hr : HR (gOf X cm hidn) H h) (a : ac.ok h H σ E) (q : t s h E P) (k : EndE (gOf X cm hidn) h H P Q) : LE (gOf X cm hidn) ac t σ H Q := ⟨s, h, E, P, sr, hr, a, q, k⟩
theorem ds_expr {e : Expr} {pos : Pos} {t : Dm.TE} (he : PE X e (LE (gOf X cm hidn) ac t)) (hs : swapsWith e none pos.line X.env = pure false := by rfl) : PS X (.Expr e pos) (LS (gOf X cm hidn) ac (Dm.sExpr t)) := (ps_expr he hs).imp fun D σ H ⟨s, h, P, sr, hr, q, k⟩ =>
  LE.mk sr hr (k.ex s h σ H (Stp.refl _ _) hr sr) q fun d h' v H' q' s' r' x' => k.nx _ _ _ _ q' s' r' (sr.stp hr s')
theorem ds_ret {e : Expr} {pos : Pos} {t : Dm.TE} (he : PE X e (LE (gOf X cm hidn) ac t)) : PS X (.Return (some e) pos) (LS (gOf X cm hidn) ac (Dm.sRet t)) := (ps_ret he).imp fun D σ H ⟨s, h, P, sr, hr, q, k⟩ =>
  LE.mk sr hr (k.ex s h σ H (Stp.refl _ _) hr sr) q k.rt
theorem ds_retN {pos : Pos} : PS X (.Return none pos) (LS (gOf X cm hidn) ac Dm.sRetN) := ps_retN.imp fun D σ H ⟨s, h, P, sr, hr, q, k⟩ => k.rt _ _ _ _ q (Stp.refl _ _) hr xN
theorem ds_if {c : Expr} {a b : List Stmt} {pos : Pos} {tc : Dm.TT} {t u : Dm.TS} (hc : PT X c (LT (gOf X cm hidn) ac tc)) (ha : PSs X a (LS (gOf X cm hidn) ac t)) (hb : PSs X b (LS (gOf X cm hidn) ac u)) : PS X (.If c a b pos) (LS (gOf X cm hidn) ac (Dm.sIf tc t u)) := (ps_if hc ha hb).imp fun D σ H ⟨s, h, P, sr, hr, q, k⟩ => by
  refine LT.bind sr hr (k.ex s h σ H (Stp.refl _ _) hr sr) q fun b h1 H1 q1 s1 r1 => ?_
  cases b with
  | true => rw [if_pos rfl] at q1 ⊢; exact ⟨s, h1, P, sr.stp hr s1, r1, q1, k.stp s1⟩
  | false => rw [if_neg Bool.false_ne_true] at q1 ⊢; exact ⟨s, h1, P, sr.stp hr s1, r1, q1, k.stp s1⟩
/-- a statement that is never reached -/
theorem ds_never {st : Stmt} {t : Dm.TS} (hn : ∀ P s h, t P s h → ∃ e s' h', P.ex e s' h' ∧ s' = s ∧ h' = h) : PS X st (LS (gOf X cm hidn) acc0 t) := ps_never.imp fun D σ H ⟨s, h, P, sr, hr, q, k⟩ => by
  obtain ⟨e, s', h', x, rfl, rfl⟩ := hn P s h q
  exact k.ex s' h' σ H (Stp.refl _ _) hr sr e h' x
/-! ### targets -/
theorem dg_name {i : Nat} {x : Str} {pos : Pos} (hN : X.N.Nodup) (hi : X.N[i]? = some x) (hx : Loc X.env.scope x) (hR : ∀ (σ : L2.St) v, R.r σ (σ.set i (some v))) (hf : X.fn x = true ∨ X.env.scope.names.lookup x = some .local := by first | exact .inl rfl | exact .inr rfl | assumption) : PG X (.Name x pos) (LG (gOf X cm hidn) ac R (Dm.gN i)) :=
  (pg_name hN hi hx hf).imp fun v σ H Q ⟨d, s, h, E, P, xd, sr, hr, _, q, k⟩ => k _ _ _ _ q (Stp.refl _ _) hr (sr.set i xd) (hR _ _)
theorem dgs_nil : PGs X [] (LGs (gOf X cm hidn) ac R Dm.gNil) := pgs_nil.imp fun vs σ H Q ⟨ds, s, h, E, P, xd, sr, hr, _, ⟨e, q⟩, k⟩ => by
  subst e
  exact ⟨by unfold VRs at xd; exact xd, k _ _ _ _ q (Stp.refl _ _) hr sr (R.refl _)⟩
theorem dgs_cons {e : Expr} {es : List Expr} {t : Dm.TG} {u : Dm.TGs} (h1 : PG X e (LG (gOf X cm hidn) ac R t)) (h2 : PGs X es (LGs (gOf X cm hidn) ac R u))
    (hs : (assignEach (e :: es) X.env).map (·.2) = assign e X.env :: (assignEach es X.env).map (·.2) := by rfl) : PGs X (e :: es) (LGs (gOf X cm hidn) ac R (Dm.gCons t u)) := (pgs_cons h1 h2 hs).imp fun vs σ H Q ⟨ds, s, h, E, P, xd, sr, hr, hac, ⟨d, r, e, q⟩, k⟩ => by
  subst e
  unfold VRs at xd
  obtain ⟨v, rv, rfl, x1, x2⟩ := xd
  exact ⟨v, rv, rfl, d, s, h, E, _, x1, sr, hr, hac, q, fun s1 h1 σ1 H1 q1 st1 r1 sr1 ra => ⟨r, s1, h1, E, P, VRs.stp hr st1 r rv x2, sr1, r1, fun s' h' σ' H' st' => hac s' h' σ' H' (st1.trans st'), q1, fun s' h' σ' H' q' st' r' sr' rb => k s' h' σ' H' q' (st1.trans st') r' sr' (R.trans ra rb)⟩⟩
theorem dg_tup {es : List Expr} {kx : _} {pos : Pos} {n : Nat} {t : Dm.TGs} (hc : X.calm = true) (h : PGs X es (LGs (gOf X cm hidn) ac R t))
    (hn : (assignEach es X.env).length = n := by rfl) (hst : (assignEach es X.env).findIdx? (·.1) = none := by rfl) : PG X (.Tuple es kx pos) (LG (gOf X cm hidn) ac R (Dm.gTup n t)) := (pg_tup hc h hn hst).imp fun v σ H Q ⟨d, s, h, E, P, xd, sr, hr, hac, ⟨l, e, el, q⟩, k⟩ => by
  subst e
  obtain ⟨a, vs, rfl, ha, _, xa⟩ := vT xd
  exact ⟨a, vs, rfl, T_of ha, by rw [xa.len]; exact el, l, s, h, E, P, xa, sr, hr, hac, q, k⟩
theorem ER.put {g : Gd} {H : Hp} {h : Dm.Hd} {y d : Dm.D} {k : Key} {v : V} (ky : k1R y k) (x : VR g H h d v) {l : List (Dm.D × Dm.D)} {es : List (Key × V)} (r : ER g H h l es) : ER g H h (Dm.putD y d l) (putK es k v) := by
  have any_ : ∀ {l : List (Dm.D × Dm.D)} {es : List (Key × V)}, ER g H h l es → (l.any fun p => Dm.eqv p.1 y) = es.any fun kv => decide (kv.1 = k) := by
    intro l
    induction l with
    | nil => intro es r; unfold ER at r; subst r; rfl
    | cons p l ih =>
      intro es r
      obtain ⟨b, e⟩ := p
      unfold ER at r
      obtain ⟨q, w, t, rfl, r1, r2, r3⟩ := r
      rw [List.any_cons, List.any_cons, ih r3, k1R_eqv r1 ky]
  have map_ : ∀ {l : List (Dm.D × Dm.D)} {es : List (Key × V)}, ER g H h l es → ER g H h (l.map fun p => if Dm.eqv p.1 y = true then (p.1, d) else p) (es.map fun kv => if kv.1 = k then (kv.1, v) else kv) := by
    intro l
    induction l with
    | nil => intro es r; unfold ER at r; subst r; unfold ER; rfl
    | cons p l ih =>
      intro es r
      obtain ⟨b, e⟩ := p
      unfold ER at r
      obtain ⟨q, w, t, rfl, r1, r2, r3⟩ := r
      rw [List.map_cons, List.map_cons]
      simp only [k1R_eqv r1 ky, decide_eq_true_eq]
      by_cases hq : q = k
      · rw [if_pos hq, if_pos hq]
        unfold ER
        exact ⟨q, v, _, rfl, r1, x, ih r3⟩
      · rw [if_neg hq, if_neg hq]
        unfold ER
        exact ⟨q, w, _, rfl, r1, r2, ih r3⟩
  have app_ : ∀ {l : List (Dm.D × Dm.D)} {es : List (Key × V)}, ER g H h l es → ER g H h (l ++ [(y, d)]) (es ++ [(k, v)]) := by
    intro l
    induction l with
    | nil =>
      intro es r
      unfold ER at r
      subst r
      show ER g H h [(y, d)] [(k, v)]
      unfold ER
      exact ⟨k, v, [], rfl, ky, x, by unfold ER; rfl⟩
    | cons p l ih =>
      intro es r
      obtain ⟨b, e⟩ := p
      unfold ER at r
      obtain ⟨q, w, t, rfl, r1, r2, r3⟩ := r
      rw [List.cons_append, List.cons_append]
      unfold ER
      exact ⟨q, w, _, rfl, r1, r2, ih r3⟩
  unfold Dm.putD putK
  rw [any_ r]
  split
  · exact map_ r
  · exact app_ r
theorem ERT.put {g : Gd} {H : Hp} {h : Dm.Hd} {ys : List Dm.D} {d : Dm.D} {k : List Key} {v : V} (ky : ksR ys k) (x : VR g H h d v) {l : List (Dm.D × Dm.D)} {es : List (List Key × V)} (r : ERT g H h l es) : ERT g H h (Dm.putD (.tup ys) d l) (putK es k v) := by
  have eq_ : ∀ {ds : List Dm.D} {q : List Key}, ksR ds q → Dm.eqv (.tup ds) (.tup ys) = decide (q = k) := fun r1 => by simp only [Dm.eqv]; exact ksR_eqv r1 ky
  have any_ : ∀ {l : List (Dm.D × Dm.D)} {es : List (List Key × V)}, ERT g H h l es → (l.any fun p => Dm.eqv p.1 (.tup ys)) = es.any fun kv => decide (kv.1 = k) := by
    intro l
    induction l with
    | nil => intro es r; unfold ERT at r; subst r; rfl
    | cons p l ih =>
      intro es r
      obtain ⟨b, e⟩ := p
      unfold ERT at r
      obtain ⟨ds, q, w, t, rfl, rfl, r1, r2, r3⟩ := r
      rw [List.any_cons, List.any_cons, ih r3, eq_ r1]
  have map_ : ∀ {l : List (Dm.D × Dm.D)} {es : List (List Key × V)}, ERT g H h l es → ERT g H h (l.map fun p => if Dm.eqv p.1 (.tup ys) = true then (p.1, d) else p) (es.map fun kv => if kv.1 = k then (kv.1, v) else kv) := by
    intro l
    induction l with
    | nil => intro es r; unfold ERT at r; subst r; unfold ERT; rfl
    | cons p l ih =>
      intro es r
      obtain ⟨b, e⟩ := p
      unfold ERT at r
      obtain ⟨ds, q, w, t, rfl, rfl, r1, r2, r3⟩ := r
      rw [List.map_cons, List.map_cons]
      simp only [eq_ r1, decide_eq_true_eq]
      by_cases hq : q = k
      · rw [if_pos hq, if_pos hq]
        unfold ERT
        exact ⟨ds, q, v, _, rfl, rfl, r1, x, ih r3⟩
      · rw [if_neg hq, if_neg hq]
        unfold ERT
        exact ⟨ds, q, w, _, rfl, rfl, r1, r2, ih r3⟩
  have app_ : ∀ {l : List (Dm.D × Dm.D)} {es : List (List Key × V)}, ERT g H h l es → ERT g H h (l ++ [(.tup ys, d)]) (es ++ [(k, v)]) := by
    intro l
    induction l with
    | nil =>
      intro es r
      unfold ERT at r
      subst r
      show ERT g H h [(.tup ys, d)] [(k, v)]
      unfold ERT
      exact ⟨ys, k, v, [], rfl, rfl, ky, x, by unfold ERT; rfl⟩
    | cons p l ih =>
      intro es r
      obtain ⟨b, e⟩ := p
      unfold ERT at r
      obtain ⟨ds, q, w, t, rfl, rfl, r1, r2, r3⟩ := r
      rw [List.cons_append, List.cons_append]
      unfold ERT
      exact ⟨ds, q, w, _, rfl, rfl, r1, r2, ih r3⟩
  unfold Dm.putD putK
  rw [any_ r]
  split
  · exact map_ r
  · exact app_ r
theorem ER.len {g : Gd} {H : Hp} {h : Dm.Hd} : ∀ {l : List (Dm.D × Dm.D)} {es : List (Key × V)}, ER g H h l es → es.length = l.length
  | [], _, r => by unfold ER at r; subst r; rfl
  | (b, e) :: l, _, r => by
    unfold ER at r
    obtain ⟨q, w, t, rfl, r1, r2, r3⟩ := r
    rw [List.length_cons, List.length_cons, r3.len]
theorem ERT.len {g : Gd} {H : Hp} {h : Dm.Hd} : ∀ {l : List (Dm.D × Dm.D)} {es : List (List Key × V)}, ERT g H h l es → es.length = l.length
  | [], _, r => by unfold ERT at r; subst r; rfl
  | (b, e) :: l, _, r => by
    unfold ERT at r
    obtain ⟨ds, q, w, t, e0, rfl, r1, r2, r3⟩ := r
    rw [List.length_cons, List.length_cons, r3.len]
theorem putD_len (y d : Dm.D) (l : List (Dm.D × Dm.D)) : (Dm.putD y d l).length ≤ l.length + 1 := by
  unfold Dm.putD
  split
  · simp
  · simp
/-- o[y] = d of a dict, of a list -/
theorem dput_of {g : Gd} {H : Hp} {h : Dm.Hd} (hr : HR g H h) {p : Addr} {t : Bool} {l : List (Dm.D × Dm.D)} {y d : Dm.D} {yv v : V} (e : h p = some (.dct t l)) (hy : VR g H h y yv) (hd : VR g H h d v) (ky : Dm.keyOk t y = true) (hl : l.length < Dm.lim) (hs : ∀ ds, y = .tup ds → ∃ a vs, yv = .ref a ∧ H a = some (.tup vs)) :
    ∃ H', DPut H p yv v H' ∧ Stp h H (Dm.up h p (.dct t (Dm.putD y d l))) H' ∧ HR g H' (Dm.up h p (.dct t (Dm.putD y d l))) := by
  have hz := lim_size
  have x := hr p _ e
  cases t with
  | false =>
    obtain ⟨es, e1, e2, e3⟩ := x
    obtain ⟨k, hk⟩ : ∃ k, k1R y k := by
      cases y with
      | int i => exact ⟨.inl i, rfl⟩
      | str i => exact ⟨.inr i, rfl⟩
      | _ => simp [Dm.keyOk] at ky
    obtain rfl := k1_val hk hy
    have st : Stp h H (Dm.up h p (.dct false (Dm.putD y d l))) (upd H p (.dK (putK es k v))) := Stp.write e
    exact ⟨_, DPut.k e1 (by rw [e3.len]; omega), st, hr.write e ⟨_, upd_same, by have := putD_len y d l; omega, ER.put hk (VR.stp hr st d v hd) (ER.stp hr st l es e3)⟩⟩
  | true =>
    obtain ⟨es, e1, e2, e3⟩ := x
    cases y with
    | tup ds =>
      obtain ⟨a, vs, rfl, ha, la, xa⟩ := vT hy
      simp only [Dm.keyOk, Bool.true_and] at ky
      obtain ⟨ks, hks, rfl⟩ := ks_val ky xa
      obtain ⟨a', vs', ea, ha'⟩ := hs ds rfl
      cases ea
      replace ha : H a = some (.tup (ks.map kV)) := by
        rcases ha with ha | ⟨o, ha, _⟩
        · exact ha
        · rw [ha'] at ha; cases ha
      have st : Stp h H (Dm.up h p (.dct true (Dm.putD (.tup ds) d l))) (upd H p (.dT (putK es ks v))) := Stp.write e
      exact ⟨_, DPut.t e1 ha (by rw [e3.len]; omega), st, hr.write e ⟨_, upd_same, by have := putD_len (.tup ds) d l; omega, ERT.put hks (VR.stp hr st d v hd) (ERT.stp hr st l es e3)⟩⟩
    | _ => simp [Dm.keyOk] at ky
theorem LG.obj {to tk : Dm.TE} {v : V} {σ : L2.St} {H : Hp} {R' : V → V → V → Hp → (Hp → Prop) → Prop} {Q : L2.St → Hp → Prop} {f : Dm.D → Dm.D → Dm.D → Dm.Hd → (Dm.Hd → Prop) → Prop}
    (q : LG (gOf X cm hidn) ac R (fun d s h E P => to s h E fun x h1 => tk s h1 E fun y h2 => f d x y h2 fun h3 => P s h3) v σ H Q)
    (go : ∀ d x y h1 H1 ov iv vv P K, VR (gOf X cm hidn) H1 h1 d vv → VR (gOf X cm hidn) H1 h1 x ov → VR (gOf X cm hidn) H1 h1 y iv → HR (gOf X cm hidn) H1 h1 → f d x y h1 P → (∀ h2 H2, P h2 → Stp h1 H1 h2 H2 → HR (gOf X cm hidn) H2 h2 → K H2) → R' ov iv vv H1 K) :
    L2.gSub (LE (gOf X cm hidn) ac to) (LE (gOf X cm hidn) ac tk) R' v σ H Q := by
  obtain ⟨d, s, h, E, P, xd, sr, hr, hac, q, k⟩ := q
  refine LE.mk sr hr (hac s h σ H (Stp.refl _ _) hr sr) q fun x h1 xv H1 q1 s1 r1 x1 => ?_
  have sr1 := sr.stp hr s1
  refine LE.mk sr1 r1 (hac s h1 σ H1 s1 r1 sr1) q1 fun y h2 yv H2 q2 s2 r2 x2 => ?_
  have s12 := s1.trans s2
  exact go d x y h2 H2 xv yv v _ _ (VR.stp hr s12 d v xd) (VR.stp r1 s2 x xv x1) x2 r2 q2 fun h3 H3 q3 s3 r3 => k s h3 σ H3 q3 (s12.trans s3) r3 (sr.stp hr (s12.trans s3)) (R.refl _)
theorem dg_dstT {o : Expr} {es : List Expr} {k1 : _} {tp pos : Pos} {to : Dm.TE} {tk : Dm.TA} (hu : X.A.units + 1 < cLine) (ho : PE X o (LE (gOf X cm hidn) ac to)) (hi : PA X es (LA (gOf X cm hidn) ac tk))
    (ha : ∀ v, assign (.Subscript o (.Tuple es k1 tp) pos) X.env v = (do
      let ov ← holding [v] (eval o X.env)
      let iv ← holding [v, ov] (eval (.Tuple es k1 tp) X.env)
      standAt pos
      holding [v, ov, iv] (setItem ov iv v)
      release [v, ov, iv] []) := by intro _; rfl) : PG X (.Subscript o (.Tuple es k1 tp) pos) (LG (gOf X cm hidn) ac R (Dm.gDst to (Dm.eTup tk))) :=
  (pg_sub ho (pe_tup hi) (set_dict hu) ha).imp fun v σ H Q ⟨d, s, h, E, P, xd, sr, hr, hac, q, k⟩ => by
    refine LE.mk sr hr (hac s h σ H (Stp.refl _ _) hr sr) q fun x h1 xv H1 q1 s1 r1 x1 => ?_
    have sr1 := sr.stp hr s1
    refine ⟨s, h1, E, _, sr1, r1, hac s h1 σ H1 s1 r1 sr1, q1, fun ds h2 vs H2 ⟨z, q2⟩ s2 r2 x2 => ⟨by rw [x2.len]; exact Nat.le_trans z lim_size, fun p n => ?_⟩⟩
    have s12 := s1.trans s2
    have s3 : Stp h2 H2 h2 (upd H2 p (.tup vs)) := Stp.new n
    have r3 := r2.new (u := .tup vs) n
    obtain ⟨pp, t, l, ex, hp, ky, hl, q⟩ := q2
    subst ex
    obtain rfl := vR x1
    obtain ⟨H', g, st, r'⟩ := dput_of r3 hp (xT (r2.nh n) upd_same (Nat.le_trans z lim_size) (VRs.stp r2 s3 _ _ x2)) (VR.stp hr (s12.trans s3) d v xd) ky hl fun _ _ => ⟨p, vs, rfl, upd_same⟩
    exact ⟨pp, H', rfl, g, k _ _ _ _ q ((s12.trans s3).trans st) r' (sr.stp hr ((s12.trans s3).trans st)) (R.refl _)⟩
theorem dg_lst {o i : Expr} {pos : Pos} {to tk : Dm.TE} (ho : PE X o (LE (gOf X cm hidn) ac to)) (hi : PE X i (LE (gOf X cm hidn) ac tk))
    (ha : ∀ v, assign (.Subscript o i pos) X.env v = (do
      let ov ← holding [v] (eval o X.env)
      let iv ← holding [v, ov] (eval i X.env)
      standAt pos
      holding [v, ov, iv] (setItem ov iv v)
      release [v, ov, iv] []) := by intro _; rfl) : PG X (.Subscript o i pos) (LG (gOf X cm hidn) ac R (Dm.gLst to tk)) :=
  (pg_sub ho hi set_list ha).imp fun v σ H Q q => LG.obj (f := fun d x y h2 P => ∃ p l i, x = .ref p ∧ h2 p = some (.lst l) ∧ y = .int i ∧ Dm.ixOk l.length i ∧ P (Dm.up h2 p (.lst (l.set (Dm.ixP l.length i) d)))) q
    fun d x y h1 H1 ov iv vv P K xd xx xy hr ⟨p, l, i, ex, hp, ey, hl, q⟩ k => by
      subst ex ey
      obtain rfl := vR xx
      obtain rfl := vI xy
      obtain ⟨vs, e1, e2, e3⟩ := hr p _ hp
      have st : Stp h1 H1 (Dm.up h1 p (.lst (l.set (Dm.ixP l.length i) d))) (upd H1 p (.lst (vs.set (Dm.ixP l.length i) vv))) := Stp.write hp
      have sx : ixN vs.length i = some (Dm.ixP l.length i) := by
        obtain ⟨o1, o2⟩ := hl
        rw [e3.len]
        unfold ixN Dm.ixP
        by_cases h0 : 0 ≤ i
        · rw [if_neg (show ¬ i < 0 by omega), if_pos h0, if_pos (by omega)]
        · rw [if_pos (show i < 0 by omega), if_neg h0, if_pos (by omega)]
      exact ⟨p, vs, i, _, rfl, rfl, e1, sx, k _ _ q st (hr.write hp ⟨_, upd_same, by rw [List.length_set]; exact e2, (VRs.stp hr st _ _ e3).set _ (VR.stp hr st _ _ xd)⟩)⟩
end
end Dr
end S_DStm
section S_DIter
set_option Elab.async false
set_option linter.all false
set_option maxRecDepth 100000
set_option maxHeartbeats 1000000
/-! DIter: what is walked. -/
namespace Dr
open PySem PySem.Spec PyProof.Rows L2
open AutoSeq1 (wpAny_loadPart')
/-! ### enumerate of a tuple -/
theorem meets_enumerate_newT (l : Addr) (items : Array Value) (n : Nat) (dct : Option Addr) (sl : Array (Option Value)) :
    Meets (Builtin.«enumerate.__new__» ⟨[.type "enumerate", .ref l], []⟩) (fun _ R s => s.heap.get? l = some { cls := .type "tuple", dict := dct, data := .seq items n, slots := sl } ∧
      R (.ok (.ret (.ref (s.heap.push { cls := .type "tuple_iterator", data := .fields #[.ref l, .int 0 0] }).objs.size)))
        { s with heap := (s.heap.push { cls := .type "tuple_iterator", data := .fields #[.ref l, .int 0 0] }).push { cls := .type "enumerate", data := .fields #[.none, .bool false, .ref s.heap.objs.size, rawInt 0, .none, .none] } }) :=
  .of_wp fun prog w A R s h => by
    obtain ⟨hp, gs, dr, tk, os⟩ := s
    obtain ⟨hl, h⟩ := h
    have hsub := sub_enumerate
    have hL : Heap.IsTuple (Shared.heap ⟨hp, gs, dr, tk, os⟩) l items := ⟨_, hl, rfl, n, rfl⟩
    wp_walk using wpAny_loadPart' hl
    refine wpAny_stack_any fun st => wpAny_pure ?_
    split
    · rename_i c _ _ _ _ _
      cases (c == Value.type "enumerate")
      · wp_walk using wpAny_loadPart' hl, wpAny_pyIter_tuple hL
        exact ⟨_, rfl, h⟩
      · wp_walk using wpAny_loadPart' hl, wpAny_pyIter_tuple hL
        exact ⟨_, rfl, h⟩
    · wp_walk using wpAny_loadPart' hl, wpAny_pyIter_tuple hL
      exact ⟨_, rfl, h⟩
theorem call_enumerate_tuple {prog : Program} {w : World} {A : Around} {E : Value → Shared → Prop} {s : Shared} {l : Addr} {items : Array Value} {Q : Value → Shared → Prop} (hL : s.heap.IsTuple l items)
    (h : ∀ h', IsEnum h' (s.heap.objs.size + 1) s.heap.objs.size 0 .none → h'.IsTupleIter s.heap.objs.size l 0 → h'.objs.size = s.heap.objs.size + 2 → (∀ b o, s.heap.get? b = some o → h'.get? b = some o) → Q (.ref (s.heap.objs.size + 1)) { s with heap := h' }) :
    wpAny (model prog w) A (call (.type "enumerate") [.ref l]) Q E s := by
  obtain ⟨⟨c, dct, dt, sl⟩, hl, hc, n, hd⟩ := hL
  simp only at hc hd
  subst hc hd
  refine callType_new F.called_enumerate (by decide) (F.typeCall_enumerate_1 _) (F.newCall_enumerate_1 _) (fun obj => F.args_object_init_2 obj _) F.entry_enumerate_new (meets_enumerate_newT l items n dct sl) ⟨hl, ?_⟩
  have hz : (s.heap.push { cls := .type "tuple_iterator", data := .fields #[.ref l, .int 0 0] }).objs.size = s.heap.objs.size + 1 := Heap.size_push ..
  show _ ∧ _
  rw [hz]
  have he : IsEnum ((s.heap.push { cls := .type "tuple_iterator", data := .fields #[.ref l, .int 0 0] }).push { cls := .type "enumerate", data := .fields #[.none, .bool false, .ref s.heap.objs.size, rawInt 0, .none, .none] }) (s.heap.objs.size + 1) s.heap.objs.size 0 .none := by
    have := Heap.get?_push_size (s.heap.push { cls := .type "tuple_iterator", data := .fields #[.ref l, .int 0 0] }) (o := { cls := .type "enumerate", data := .fields #[.none, .bool false, .ref s.heap.objs.size, rawInt 0, .none, .none] }) rfl
    rwa [hz] at this
  exact ⟨⟨_, he, rfl⟩, h _ he ⟨_, Heap.get?_push_of_some _ (Heap.get?_push_size _ rfl), rfl, rfl⟩ (by rw [Heap.size_push, hz]) fun b o x => Heap.get?_push_of_some _ (Heap.get?_push_of_some _ x)⟩
/-- the tuple at a, each item in a new pair -/
def IteT (K : PySem.W.Frag) (a : Addr) : It :=
  ⟨fun i H => ∃ (xs : List V) (x : V), SqT K H a xs ∧ xs[i]? = some x, fun i H v H' => ∃ T x, v = .ref T ∧ H T = none ∧ H' = upd H T (.tup [.int (i : Nat), x]) ∧ ∀ xs, SqT K H a xs → xs[i]? = some x, fun i H => ∃ xs : List V, SqT K H a xs ∧ xs.length ≤ i⟩
theorem tupIter_ne {h : Heap} {a it : Addr} {items : Array Value} {i : Nat} (p : h.IsTuple a items) (q : h.IsTupleIter it a i) : a ≠ it := by
  intro e
  subst e
  obtain ⟨o, h1, h2, _⟩ := p
  obtain ⟨o', h1', h2', _⟩ := q
  rw [h1] at h1'
  cases h1'
  rw [h2] at h2'
  exact absurd h2' (by decide)
theorem turn_enumT {P : Program} {w : World} {K : PySem.W.Frag} {elts : List Expr} {kk : Nat} {tpos : Pos} (a e it : Addr) :
    Turn P w K (.Tuple elts kk tpos) (IteT K a) [e, it] e (fun i h => (∃ old, IsEnum h e it ((i : Nat) : Int) old) ∧ h.IsTupleIter it a i ∧ e ≠ it ∧ e ≠ a) where
  mem := by simp
  obj := fun i h st b hb => by
    obtain ⟨⟨old, he⟩, ⟨o, ho, hc, hd⟩, _⟩ := st
    rcases (show b = e ∨ b = it by simpa using hb) with z | z
    · rw [z]; exact ⟨_, he, fun v q => nomatch q⟩
    · rw [z]; exact ⟨o, ho, fun v q => by rw [hd] at q; cases q⟩
  keep := fun i h h' st k => let ⟨⟨old, he⟩, hi, hne, hna⟩ := st; ⟨⟨old, k e (by simp) _ he⟩, hi.at fun o q => k it (by simp) o q, hne, hna⟩
  item := by
    intro X hP hw hK hc i pins s σ H E I hf st hg
    subst hP hw hK
    obtain ⟨⟨old, he⟩, hit, hne, hna⟩ := st
    obtain ⟨xs, x, hq, hx⟩ := hg
    obtain ⟨its, rv, p, hz⟩ := I.tuple hq
    obtain ⟨u, hu, ru⟩ := rv.get hx
    have pT : s.heap.IsTuple a its.toArray := p
    have hai := tupIter_ne pT hit
    have hel : e < s.heap.objs.size := Heap.lt_size he
    have hil : it < s.heap.objs.size := by obtain ⟨_, q, _⟩ := hit; exact Heap.lt_size q
    have hlt : i < its.toArray.size := by
      rw [List.size_toArray]
      exact (List.getElem?_eq_some_iff.mp hu).1
    have eu : its.toArray[i]? = some u := by simpa using hu
    refine wpAny_pyNext_enum_itemD (Draws.tuple (A := X.A.in1) (I.ok.hd hc) it a hai its.toArray) he ⟨hit, pT⟩ hlt hne (by simp [hne, hna]) fun x' h' tk hP ho hst hT hsz hk => ?_
    rw [eu] at hP
    obtain rfl := Option.some.inj hP
    refine ⟨_, rfl, wpAny_letOwnedTupleGo_enum (s := { s with heap := h', toks := tk + 1 }) ho fun h'' he' sb => ?_⟩
    have hT2 : h''.get? s.heap.objs.size = some { cls := .type "tuple", data := .seq #[.int i tk, u] } := (sb.2 _ (Nat.ne_of_gt hel)).trans hT
    have new : ObjOk X.prog X.w (upd H s.heap.objs.size (.tup [.int (i : Nat), x])) h'' s.heap.objs.size (.tup [.int (i : Nat), x]) :=
      ⟨by show 2 ≤ sizeLine; decide, [.int i tk, u], .cons ⟨_, rfl⟩ (.cons ru .nil), ⟨_, hT2, rfl, _, rfl⟩⟩
    have I1 : Inv X pins σ (upd H s.heap.objs.size (.tup [.int (i : Nat), x])) { s with heap := h'', toks := tk + 1 } :=
      I.turnedNew (ch := [e, it]) (fun b ob hb q => (sb.2 b (fun z => hb (by simp [z]))).trans (hk b ob (fun z => hb (by simp [z])) (fun z => hb (by simp [z])) q)) hf (Nat.le_refl _) new
    refine ⟨.ref s.heap.objs.size, _, I1, rfl, ⟨_, x, rfl, I.hok.fresh (Nat.le_refl _), rfl, fun ys hy => by rw [I.tuple_inj hy hq]; exact hx⟩, ⟨⟨u, ?_⟩, hst.1.at fun o q => (sb.2 it (Ne.symm hne)).trans q, hne, hna⟩, fun b hb => ?_⟩
    · have e1 : ((i + 1 : Nat) : Int) = (i : Int) + 1 := by omega
      rw [e1]; exact he'
    · have hb' : b < s.heap.objs.size := by
        rcases (show b = e ∨ b = it by simpa using hb) with z | z
        · rw [z]; exact hel
        · rw [z]; exact hil
      rw [upd_ne (Nat.ne_of_lt hb')]
      exact (hf b hb).1
  done := by
    intro X hP hw hK hc i pins s σ H E I hf st hg
    subst hP hw hK
    obtain ⟨⟨old, he⟩, hit, hne, hna⟩ := st
    obtain ⟨xs, hq, hx⟩ := hg
    obtain ⟨its, rv, p, hz⟩ := I.tuple hq
    have pT : s.heap.IsTuple a its.toArray := p
    have hai := tupIter_ne pT hit
    obtain ⟨f0, f1, f2, f3, f4, f5⟩ := hf it (by simp)
    have hl := rv.length
    have D := Draws.tuple (prog := X.prog) (w := X.w) (A := X.A.in1) (I.ok.hd hc) it a hai its.toArray
    -- the iterator stands behind the last item
    have hn : its.toArray[i]? = none := by simp; omega
    have hT : s.TypeIs (.ref e) "enumerate" := ⟨_, he, rfl⟩
    unfold pyNext
    refine wpAny_bind (wpAny_attempt (wpAny_callSpecial?_slot (name := Str.ofString "__next__") hT F.slot_enumerate_next (wpAny_call_entry F.slot_enumerate_next hT F.entry_enumerate_next ?_ (F.args_enumerate_next_1 _))))
    show wpAny _ _ (field (.ref e) 2 >>= _) _ _ _
    refine wpAny_bind (wpAny_field he rfl (x := .ref it) rfl ?_)
    refine wpAny_bind (wpAny_nextOf_tuple_end (I.ok.hd hc) hit pT hn fun h' x he' hx' => ?_)
    obtain ⟨o, ho, hcl⟩ := hx'
    refine wpAny_bind (wpAny_isInstance (T := "StopIteration") (b := true) ⟨o, ho, hcl⟩ isSubtype_stop ?_)
    exact wpAny_pure ⟨rfl, I.turned (t' := s.toks) (fun b o hb q => he' b o hb q) f0 f1 f3 f4 f5⟩
  self := fun A i s Q E st h => let ⟨⟨_, he⟩, _⟩ := st; wpAny_pyIter_enum he h
section
variable {X : Cx} {cm : CM} {ac : Acc} {tg : Expr}
/-- a list or a tuple, walked -/
theorem pi_seq {e : Expr} {te : L2.TE} (he : PE X e te) : PI X tg e (fun σ H R => te σ H fun x H1 => ∃ a, x = .ref a ∧ ((∃ xs, SqL X.K H1 a xs ∧ R (Itl X.K a) H1) ∨ (∃ xs, SqT X.K H1 a xs ∧ R (Itt X.K a) H1))) := by
  refine ⟨fun pins s σ H R I h => ?_⟩
  refine thn (he.run pins s σ H _ I h) fun v s1 ⟨x, H1, I1, r1, a, ex, q⟩ => ?_
  subst ex
  cases r1
  rcases q with ⟨xs, hq, q⟩ | ⟨xs, hq, q⟩
  · obtain ⟨its, rv, p, hz⟩ := I1.list hq
    exact wpAny_pyIter_list p.isList (pi_one (tk := s1.toks) I1 _ (turn_list a _) ⟨_, Heap.get?_push_size _ rfl, rfl, rfl⟩ q)
  · obtain ⟨its, rv, p, hz⟩ := I1.tuple hq
    exact wpAny_pyIter_tuple (show s1.heap.IsTuple a its.toArray from p) (pi_one (tk := s1.toks) I1 _ (turn_tuple a _) ⟨_, Heap.get?_push_size _ rfl, rfl, rfl⟩ q)
/-- enumerate of a list or a tuple -/
theorem pi_enumA {e : Expr} {ta : L2.TA} {p pos tpos : Pos} {elts : List Expr} {kk : Nat} (hg : Gl X "enumerate") (hm : X.mg "enumerate" = none) (ha : PA X [e] ta) (hs : starEach [e] X.env = [(false, eval e X.env)] := by rfl) :
    PI X (.Tuple elts kk tpos) (.Call (.Name "enumerate" p) [e] [] pos) (fun σ H R => ta σ H fun vs H1 => ∃ a, vs = [.ref a] ∧ ((∃ xs, SqL X.K H1 a xs ∧ R (Ite X.K a) H1) ∨ (∃ xs, SqT X.K H1 a xs ∧ R (IteT X.K a) H1))) := by
  refine ⟨fun pins s σ H R I h => ?_⟩
  refine Call_ (ld_blt I hg hm boot_enumerate (PyProof.Rows.callWith_type1 (thn (ha.run pos pins s σ H _ I h) fun us s1 ⟨vs, H1, I1, r1, a, ex, q⟩ => ?_) hs rfl))
  subst ex
  obtain rfl := Vals.ref1 r1
  have two : ∀ h' : Heap, (∀ b o, s1.heap.get? b = some o → h'.get? b = some o) → ∀ b ∈ [s1.heap.objs.size + 1, s1.heap.objs.size], FpOk X pins H1 b := fun h' hk b hb => by
    rcases (show b = s1.heap.objs.size + 1 ∨ b = s1.heap.objs.size by simpa using hb) with z | z
    · rw [z]; exact I1.fpOk (Nat.le_succ _) (I1.hok.fresh (Nat.le_succ _))
    · rw [z]; exact I1.fpOk (Nat.le_refl _) (I1.hok.fresh (Nat.le_refl _))
  rcases q with ⟨xs, hq, q⟩ | ⟨xs, hq, q⟩
  · obtain ⟨its, rv, pp, hz⟩ := I1.list hq
    refine call_enumerate_list pp.isList fun h' he hit hsz hk => wpAny_pyIter_enum he ?_
    have I2 : Inv X pins σ H1 { s1 with heap := h' } := I1.kept (t' := s1.toks) hk
    exact ⟨_, [s1.heap.objs.size + 1, s1.heap.objs.size], _, _, H1, rfl, I2, turn_enum a _ _, ⟨⟨_, he⟩, hit, Nat.ne_of_gt (Nat.lt_succ_self _)⟩, two h' hk, q⟩
  · obtain ⟨its, rv, pp, hz⟩ := I1.tuple hq
    have pT : s1.heap.IsTuple a its.toArray := pp
    refine call_enumerate_tuple pT fun h' he hit hsz hk => wpAny_pyIter_enum he ?_
    have I2 : Inv X pins σ H1 { s1 with heap := h' } := I1.kept (t' := s1.toks) hk
    have hal : a < s1.heap.objs.size := by obtain ⟨_, q, _⟩ := pT; exact Heap.lt_size q
    exact ⟨_, [s1.heap.objs.size + 1, s1.heap.objs.size], _, _, H1, rfl, I2, turn_enumT a _ _, ⟨⟨_, he⟩, hit, Nat.ne_of_gt (Nat.lt_succ_self _), Nat.ne_of_gt (Nat.lt_succ_of_lt hal)⟩, two h' hk, q⟩
end
end Dr
end S_DIter
section S_DTrn
set_option Elab.async false
set_option linter.all false
set_option maxRecDepth 100000
set_option maxHeartbeats 1000000
/-! DTrn: other places hidden, other things changed. -/
namespace Dr
open PySem PySem.Spec PyProof.Rows L2
section
variable {g : Gd} {z : Addr → Prop} {H H' : Hp} {h h' : Dm.Hd}
abbrev Gd.to (g : Gd) (z : Addr → Prop) : Gd := { g with hid := ⟨z, g.hid.lam⟩ }
mutual
/-- other places hidden, other things changed: what may be spoken of stands -/
theorem VR.trh (T : ∀ a u, ¬ g.hid a → H a = some u → ¬ z a ∧ H' a = some u) (Th : ∀ a, ¬ g.hid a → h a = none → h' a = none) : ∀ (d : Dm.D) (v : V), VR g H h d v → VR (g.to z) H' h' d v
  | .non, _, x => by unfold VR at x ⊢; exact x
  | .bl _, _, x => by unfold VR at x ⊢; exact x
  | .int _, _, x => by unfold VR at x ⊢; exact x
  | .str _, _, x => by unfold VR at x ⊢; exact x
  | .byt _, _, x => by unfold VR at x ⊢; exact x
  | .ty _, _, x => by unfold VR at x ⊢; exact x
  | .exc a d c ks l, _, x => by
    unfold VR at x ⊢
    obtain ⟨e1, e2⟩ := x
    refine ⟨e1, fun ne => ?_⟩
    obtain ⟨n1, n2, gs, n3, n4⟩ := e2 ne
    obtain ⟨z1, z2⟩ := T d _ n1 n3
    exact ⟨z1, Th d n1 n2, gs, z2, n4⟩
  | .lam i, _, x => by
    unfold VR at x ⊢
    obtain ⟨f, os, e1, e2, e3⟩ := x
    refine ⟨f, os, e1, fun p hp => ?_, e3⟩
    obtain ⟨n1, n2, n3, n4, n5⟩ := e2 p hp
    obtain ⟨z1, z2⟩ := T p.1 _ n1 n3
    exact ⟨z1, Th p.1 n1 n2, z2, n4, n5⟩
  | .ref _, _, x => by unfold VR at x ⊢; exact x
  | .set l, _, x => by
    unfold VR at x ⊢
    obtain ⟨a, S, n, e1, e0, e2, e3, e4, e5⟩ := x
    obtain ⟨z1, z2⟩ := T a _ e0 e3
    exact ⟨a, S, n, e1, z1, Th a e0 e2, z2, e4, e5⟩
  | .tup l, _, x => by
    unfold VR at x ⊢
    obtain ⟨a, vs, e1, e0, e2, e3, e4⟩ := x
    have z : ¬ z a ∧ TupA H' a vs := by
      rcases e2 with e2 | ⟨o, e2, e5⟩
      · exact ⟨(T a _ e0 e2).1, .inl (T a _ e0 e2).2⟩
      · exact ⟨(T a _ e0 e2).1, .inr ⟨o, (T a _ e0 e2).2, e5⟩⟩
    exact ⟨a, vs, e1, z.1, z.2, e3, VRs.trh T Th l vs e4⟩
  | .fn _, _, x => by unfold VR at x ⊢; exact x
  | .ktp l, _, x => by
    unfold VR at x ⊢
    obtain ⟨a, vs, o, e1, e0, e2, e3, e4, e5, e6⟩ := x
    obtain ⟨z1, z2⟩ := T a _ e0 e2
    exact ⟨a, vs, o, e1, z1, z2, e3, e4, e5, VRs.trh T Th l vs e6⟩
  | .stp l, _, x => by
    unfold VR at x ⊢
    obtain ⟨a, vs, e1, e2, e3⟩ := x
    exact ⟨a, vs, e1, e2, VRs.trh T Th l vs e3⟩
  | .lst l, _, x => by
    unfold VR at x ⊢
    obtain ⟨a, vs, e1, e0, e2, e3, e4, e5⟩ := x
    obtain ⟨z1, z2⟩ := T a _ e0 e2
    exact ⟨a, vs, e1, z1, z2, Th a e0 e3, e4, VRs.trh T Th l vs e5⟩
  | .scr l, _, x => by
    unfold VR at x ⊢
    obtain ⟨a, vs, e1, e2, e4, e5⟩ := x
    refine ⟨a, vs, e1, ?_, e4, VRs.trh T Th l vs e5⟩
    rcases e2 with ⟨e0, ⟨o, e2⟩ | ⟨e1, e2⟩⟩ | e2
    · obtain ⟨z1, z2⟩ := T a _ e0 e2
      exact .inl ⟨z1, .inl ⟨o, z2⟩⟩
    · obtain ⟨z1, z2⟩ := T a _ e0 e2
      exact .inl ⟨z1, .inr ⟨Th a e0 e1, z2⟩⟩
    · exact .inr e2
theorem VRs.trh (T : ∀ a u, ¬ g.hid a → H a = some u → ¬ z a ∧ H' a = some u) (Th : ∀ a, ¬ g.hid a → h a = none → h' a = none) : ∀ (l : List Dm.D) (vs : List V), VRs g H h l vs → VRs (g.to z) H' h' l vs
  | [], _, x => by unfold VRs at x ⊢; exact x
  | d :: l, _, x => by
    unfold VRs at x ⊢
    obtain ⟨v, q, e, x1, x2⟩ := x
    exact ⟨v, q, e, VR.trh T Th d v x1, VRs.trh T Th l q x2⟩
end
theorem ER.trh (T : ∀ a u, ¬ g.hid a → H a = some u → ¬ z a ∧ H' a = some u) (Th : ∀ a, ¬ g.hid a → h a = none → h' a = none) : ∀ (l : List (Dm.D × Dm.D)) (es : List (Key × V)), ER g H h l es → ER (g.to z) H' h' l es
  | [], _, x => by unfold ER at x ⊢; exact x
  | (k, d) :: l, _, x => by
    unfold ER at x ⊢
    obtain ⟨q, v, t, e, x1, x2, x3⟩ := x
    exact ⟨q, v, t, e, x1, VR.trh T Th d v x2, ER.trh T Th l t x3⟩
theorem ERT.trh (T : ∀ a u, ¬ g.hid a → H a = some u → ¬ z a ∧ H' a = some u) (Th : ∀ a, ¬ g.hid a → h a = none → h' a = none) : ∀ (l : List (Dm.D × Dm.D)) (es : List (List Key × V)), ERT g H h l es → ERT (g.to z) H' h' l es
  | [], _, x => by unfold ERT at x ⊢; exact x
  | (k, d) :: l, _, x => by
    unfold ERT at x ⊢
    obtain ⟨ds, q, v, t, e0, e, x1, x2, x3⟩ := x
    exact ⟨ds, q, v, t, e0, e, x1, VR.trh T Th d v x2, ERT.trh T Th l t x3⟩
theorem FR.trh (T : ∀ a u, ¬ g.hid a → H a = some u → ¬ z a ∧ H' a = some u) (Th : ∀ a, ¬ g.hid a → h a = none → h' a = none) : ∀ (l : List (String × Dm.D)) (es : List (Str × V)), FR g H h l es → FR (g.to z) H' h' l es
  | [], _, x => by unfold FR at x ⊢; exact x
  | (k, d) :: l, _, x => by
    unfold FR at x ⊢
    obtain ⟨v, t, e, x1, x2⟩ := x
    exact ⟨v, t, e, VR.trh T Th d v x1, FR.trh T Th l t x2⟩
theorem VR.tr (T : ∀ a u, ¬ g.hid a → H a = some u → ¬ z a ∧ H' a = some u) (d : Dm.D) (v : V) (x : VR g H h d v) : VR (g.to z) H' h d v := VR.trh T (fun _ _ e => e) d v x
theorem VRs.tr (T : ∀ a u, ¬ g.hid a → H a = some u → ¬ z a ∧ H' a = some u) (d : List Dm.D) (v : List V) (x : VRs g H h d v) : VRs (g.to z) H' h d v := VRs.trh T (fun _ _ e => e) d v x
theorem TabD.tr {P : Addr} {q : Str} (t : TabD g H h P q) (T : ∀ a u, ¬ g.hid a → H a = some u → ¬ z a ∧ H' a = some u) (Th : ∀ a, ¬ g.hid a → h a = none → h' a = none) : TabD (g.to z) H' h' P q := by
  obtain ⟨t1, t0, ps, t3, t4, t5⟩ := t
  obtain ⟨b1, b2⟩ := T P _ t0 t3
  refine ⟨Th P t0 t1, b1, ps, b2, t4, fun pos cv hc => ?_⟩
  obtain ⟨c, c1, c2, c3, c4⟩ := t5 pos cv hc
  obtain ⟨d1, d2⟩ := T c _ c2 c4
  exact ⟨c, c1, d1, Th c c2 c3, d2⟩
theorem HR.tr (r : HR g H h) (T : ∀ a u, ¬ g.hid a → H a = some u → ¬ z a ∧ H' a = some u) (hz : ∀ a, z a → h a = none ∧ ∃ u, H' a = some u ∧ hkd u = true) : HR (g.to z) H' h := ⟨fun a o e => by
  have x := r a o e
  have nh := r.nh2 e
  cases o with
  | lst l => obtain ⟨vs, e1, e2, e3⟩ := x; exact ⟨vs, (T a _ nh e1).2, e2, VRs.tr T l vs e3⟩
  | dct t l =>
    cases t with
    | false => obtain ⟨vs, e1, e2, e3⟩ := x; exact ⟨vs, (T a _ nh e1).2, e2, ER.trh T (fun _ _ e => e) l vs e3⟩
    | true => obtain ⟨vs, e1, e2, e3⟩ := x; exact ⟨vs, (T a _ nh e1).2, e2, ERT.trh T (fun _ _ e => e) l vs e3⟩
  | ins c fs => obtain ⟨dx, gs, e1, e3⟩ := x; exact ⟨dx, gs, (T a _ nh e1).2, FR.trh T (fun _ _ e => e) fs gs e3⟩, hz, fun p hp => (r.tb p hp).tr T (fun _ _ e => e)⟩
theorem SR.tr (T : ∀ a u, ¬ g.hid a → H a = some u → ¬ z a ∧ H' a = some u) : ∀ {l : Dm.St} {σ : L2.St}, SR g H h l σ → SR (g.to z) H' h l σ
  | [], _, x => by unfold SR at x ⊢; exact x
  | none :: l, _, x => by
    unfold SR at x ⊢
    obtain ⟨o, q, e, x2⟩ := x
    exact ⟨o, q, e, x2.tr T⟩
  | some d :: l, _, x => by
    unfold SR at x ⊢
    obtain ⟨v, q, e, x1, x2⟩ := x
    exact ⟨v, q, e, VR.tr T d v x1, x2.tr T⟩
end
end Dr
end S_DTrn
section S_DLoop
set_option Elab.async false
set_option linter.all false
set_option maxRecDepth 100000
set_option maxHeartbeats 1000000
/-! DLoop: loops and comprehensions. -/
namespace Dr
open PySem PySem.Spec PyProof.Rows L2
/-- what an iterator gives, as data, from (h1, H1) on -/
structure ItR (g : Gd) (h1 : Dm.Hd) (H1 : Hp) (J : It) (l : List Dm.D) (ok : Dm.Hd → Prop) : Prop where
  go : ∀ (z : Addr → Prop) i h H, Stp h1 H1 h H → HR (g.to z) H h → ok h → i < l.length → J.go i H
  stop : ∀ (z : Addr → Prop) i h H, Stp h1 H1 h H → HR (g.to z) H h → ok h → l.length ≤ i → J.stop i H
  yld : ∀ (z : Addr → Prop) i h H x H', (∀ a, z a → g.hid a ∨ H1 a = none) → Stp h1 H1 h H → HR (g.to z) H h → ok h → i < l.length → J.yld i H x H' → ∃ d, l[i]? = some d ∧ Stp h H h H' ∧ HR (g.to z) H' h ∧ VR (g.to z) H' h d x
/-- data of old are data where only new places are hidden -/
theorem hideN {g : Gd} {H1 : Hp} {z : Addr → Prop} (hz : ∀ a, z a → g.hid a ∨ H1 a = none) : ∀ a u, ¬ g.hid a → H1 a = some u → ¬ z a ∧ H1 a = some u := fun a u n e => by
  refine ⟨fun q => ?_, e⟩
  rcases hz a q with q | q
  · exact n q
  · rw [e] at q; cases q
theorem oldV {g : Gd} {h1 h : Dm.Hd} {H1 H : Hp} {z : Addr → Prop} (r1 : HR g H1 h1) (hz : ∀ a, z a → g.hid a ∨ H1 a = none) (s : Stp h1 H1 h H) {l : List Dm.D} {vs : List V} (x : VRs g H1 h1 l vs) : VRs (g.to z) H h l vs :=
  VRs.stp' r1.noT s l vs (VRs.tr (hideN hz) l vs x)
def LI (g : Gd) (ac : Acc) (t : Dm.TI) : L2.TI := fun σ H R => ∃ s h E P, SR g H h s σ ∧ HR g H h ∧ ac.ok h H σ E ∧ t s h E P ∧
  ∀ l ok h1 H1 J, P l ok h1 → Stp h H h1 H1 → HR g H1 h1 → ok h1 → l.length ≤ sizeLine → ItR g h1 H1 J l ok → R J H1
theorem _root_.L2.PI.imp {X : Cx} {tg e : Expr} {t t' : L2.TI} (p : PI X tg e t) (h : ∀ σ H R, t' σ H R → t σ H R) : PI X tg e t' := ⟨fun pins s σ H R I q => p.run pins s σ H R I (h _ _ _ q)⟩
section
variable {g : Gd} {h1 : Dm.Hd} {H1 : Hp}
theorem itl_frozen {a : Addr} {vs : List V} {l : List Dm.D} (ha : H1 a = some (.lst vs)) (n : h1 a = none) (x : VRs g H1 h1 l vs) (r1 : HR g H1 h1) : ItR g h1 H1 (Itl g.K a) l fun _ => True where
  go := fun z i h H s r _ hi => ⟨vs, vs[i]'(by rw [x.len]; exact hi), L_of (s a _ ha n rfl).1, by simp⟩
  stop := fun z i h H s r _ hi => ⟨vs, L_of (s a _ ha n rfl).1, by rw [x.len]; exact hi⟩
  yld := fun z i h H y H' hz s r _ hi ⟨e, q⟩ => by
    subst e
    obtain ⟨d, ed, xd⟩ := (oldV r1 hz s x).get' (q vs (L_of (s a _ ha n rfl).1))
    exact ⟨d, ed, Stp.refl _ _, r, xd⟩
theorem itl_scr {a : Addr} {vs : List V} {l : List Dm.D} (ha : ScR g H1 h1 a vs) (x : VRs g H1 h1 l vs) (r1 : HR g H1 h1) : ItR g h1 H1 (Itl g.K a) l fun _ => True where
  go := fun z i h H s r _ hi => ⟨vs, vs[i]'(by rw [x.len]; exact hi), (ScR.stp' (g := g) r1.noT s ha).sql, by simp⟩
  stop := fun z i h H s r _ hi => ⟨vs, (ScR.stp' (g := g) r1.noT s ha).sql, by rw [x.len]; exact hi⟩
  yld := fun z i h H y H' hz s r _ hi ⟨e, q⟩ => by
    subst e
    obtain ⟨d, ed, xd⟩ := (oldV r1 hz s x).get' (q vs (ScR.stp' (g := g) r1.noT s ha).sql)
    exact ⟨d, ed, Stp.refl _ _, r, xd⟩
theorem itl_ref {a : Addr} {l : List Dm.D} : ItR g h1 H1 (Itl g.K a) l fun h => h a = some (.lst l) where
  go := fun z i h H s r k hi => by
    obtain ⟨vs, e1, e2, e3⟩ := r a _ k
    exact ⟨vs, vs[i]'(by rw [e3.len]; exact hi), L_of e1, by simp⟩
  stop := fun z i h H s r k hi => by
    obtain ⟨vs, e1, e2, e3⟩ := r a _ k
    exact ⟨vs, L_of e1, by rw [e3.len]; exact hi⟩
  yld := fun z i h H y H' hz s r k hi ⟨e, q⟩ => by
    subst e
    obtain ⟨vs, e1, e2, e3⟩ := r a _ k
    obtain ⟨d, ed, xd⟩ := e3.get' (q vs (L_of e1))
    exact ⟨d, ed, Stp.refl _ _, r, xd⟩
theorem itt_tup {a : Addr} {vs : List V} {l : List Dm.D} (ha : TupA H1 a vs) (x : VRs g H1 h1 l vs) (r1 : HR g H1 h1) : ItR g h1 H1 (Itt g.K a) l fun _ => True where
  go := fun z i h H s r _ hi => ⟨vs, vs[i]'(by rw [x.len]; exact hi), T_of (ha.stp' r1.noT s), by simp⟩
  stop := fun z i h H s r _ hi => ⟨vs, T_of (ha.stp' r1.noT s), by rw [x.len]; exact hi⟩
  yld := fun z i h H y H' hz s r _ hi ⟨e, q⟩ => by
    subst e
    obtain ⟨d, ed, xd⟩ := (oldV r1 hz s x).get' (q vs (T_of (ha.stp' r1.noT s)))
    exact ⟨d, ed, Stp.refl _ _, r, xd⟩
theorem rng_len (lo : Int) (n : Nat) : (Dm.rngD lo n).length = n := by simp [Dm.rngD]
theorem itr_rng {lo : Int} {n : Nat} : ItR g h1 H1 (Itr lo n) (Dm.rngD lo n) fun _ => True where
  go := fun z i h H s r _ hi => by rw [rng_len] at hi; exact hi
  stop := fun z i h H s r _ hi => by rw [rng_len] at hi; exact hi
  yld := fun z i h H y H' hz s r _ hi ⟨e, q⟩ => by
    subst e q
    rw [rng_len] at hi
    exact ⟨.int (lo + i), by simp [Dm.rngD, hi], Stp.refl _ _, r, xI⟩
theorem enum_get : ∀ (l : List Dm.D) (k : Int) (i : Nat), (Dm.enumD k l)[i]? = l[i]?.map fun d => .tup [.int (k + i), d]
  | [], k, i => by simp [Dm.enumD]
  | d :: l, k, 0 => by simp [Dm.enumD]
  | d :: l, k, i + 1 => by
    simp only [Dm.enumD, List.getElem?_cons_succ, enum_get l (k + 1) i]
    have : k + 1 + (i : Int) = k + ((i + 1 : Nat) : Int) := by omega
    rw [this]
theorem enum_len : ∀ (l : List Dm.D) (k : Int), (Dm.enumD k l).length = l.length
  | [], k => rfl
  | d :: l, k => by simp [Dm.enumD, enum_len l (k + 1)]
/-- each item in a new pair -/
theorem pair_new {h : Dm.Hd} {H : Hp} {T : Addr} {d e : Dm.D} {v u : V} (r : HR g H h) (n : H T = none) (xd : VR g H h d v) (xe : VR g H h e u) : Stp h H h (upd H T (.tup [v, u])) ∧ HR g (upd H T (.tup [v, u])) h ∧ VR g (upd H T (.tup [v, u])) h (.tup [d, e]) (.ref T) := by
  have st : Stp h H h (upd H T (.tup [v, u])) := Stp.new n
  refine ⟨st, r.new n, xT (r.nh n) upd_same (by show 2 ≤ sizeLine; decide) (.cons (VR.stp r st d v xd) (.cons (VR.stp r st e u xe) .nil))⟩
theorem ite_frozen {a : Addr} {vs : List V} {l : List Dm.D} (ha : H1 a = some (.lst vs)) (n : h1 a = none) (x : VRs g H1 h1 l vs) (r1 : HR g H1 h1) : ItR g h1 H1 (Ite g.K a) (Dm.enumD 0 l) fun _ => True where
  go := fun z i h H s r _ hi => by rw [enum_len] at hi; exact ⟨vs, vs[i]'(by rw [x.len]; exact hi), L_of (s a _ ha n rfl).1, by simp⟩
  stop := fun z i h H s r _ hi => by rw [enum_len] at hi; exact ⟨vs, L_of (s a _ ha n rfl).1, by rw [x.len]; exact hi⟩
  yld := fun z i h H y H' hz s r _ hi ⟨T, z, e1, e2, e3, q⟩ => by
    subst e1 e3
    obtain ⟨d, ed, xd⟩ := (oldV r1 hz s x).get' (q vs (L_of (s a _ ha n rfl).1))
    obtain ⟨st, r', x'⟩ := pair_new r e2 (xI (i := (i : Int))) xd
    exact ⟨_, by rw [enum_get, ed]; simp, st, r', x'⟩
theorem ite_ref {a : Addr} {l : List Dm.D} : ItR g h1 H1 (Ite g.K a) (Dm.enumD 0 l) fun h => h a = some (.lst l) where
  go := fun z i h H s r k hi => by
    rw [enum_len] at hi
    obtain ⟨vs, e1, e2, e3⟩ := r a _ k
    exact ⟨vs, vs[i]'(by rw [e3.len]; exact hi), L_of e1, by simp⟩
  stop := fun z i h H s r k hi => by
    rw [enum_len] at hi
    obtain ⟨vs, e1, e2, e3⟩ := r a _ k
    exact ⟨vs, L_of e1, by rw [e3.len]; exact hi⟩
  yld := fun z i h H y H' hz s r k hi ⟨T, z, e1, e2, e3, q⟩ => by
    subst e1 e3
    obtain ⟨vs, f1, f2, f3⟩ := r a _ k
    obtain ⟨d, ed, xd⟩ := f3.get' (q vs (L_of f1))
    obtain ⟨st, r', x'⟩ := pair_new r e2 (xI (i := (i : Int))) xd
    exact ⟨_, by rw [enum_get, ed]; simp, st, r', x'⟩
theorem ite_tup {a : Addr} {vs : List V} {l : List Dm.D} (ha : TupA H1 a vs) (x : VRs g H1 h1 l vs) (r1 : HR g H1 h1) : ItR g h1 H1 (IteT g.K a) (Dm.enumD 0 l) fun _ => True where
  go := fun z i h H s r _ hi => by rw [enum_len] at hi; exact ⟨vs, vs[i]'(by rw [x.len]; exact hi), T_of (ha.stp' r1.noT s), by simp⟩
  stop := fun z i h H s r _ hi => by rw [enum_len] at hi; exact ⟨vs, T_of (ha.stp' r1.noT s), by rw [x.len]; exact hi⟩
  yld := fun z i h H y H' hz s r _ hi ⟨T, z, e1, e2, e3, q⟩ => by
    subst e1 e3
    obtain ⟨d, ed, xd⟩ := (oldV r1 hz s x).get' (q vs (T_of (ha.stp' r1.noT s)))
    obtain ⟨st, r', x'⟩ := pair_new r e2 (xI (i := (i : Int))) xd
    exact ⟨_, by rw [enum_get, ed]; simp, st, r', x'⟩
theorem zip_get : ∀ (l m : List Dm.D) (i : Nat) (d e : Dm.D), l[i]? = some d → m[i]? = some e → (Dm.zipD l m)[i]? = some (.tup [d, e])
  | [], _, i, d, e, h, _ => by simp at h
  | _ :: _, [], i, d, e, _, h => by simp at h
  | x :: l, y :: m, 0, d, e, h, h' => by simp at h h'; subst h h'; simp [Dm.zipD]
  | x :: l, y :: m, i + 1, d, e, h, h' => by simp only [Dm.zipD, List.getElem?_cons_succ]; exact zip_get l m i d e (by simpa using h) (by simpa using h')
theorem zip_len : ∀ (l m : List Dm.D), (Dm.zipD l m).length = min l.length m.length
  | [], m => by simp [Dm.zipD]
  | x :: l, [] => by simp [Dm.zipD]
  | x :: l, y :: m => by simp [Dm.zipD, zip_len l m]
theorem itz_tup {a b : Addr} {vs us : List V} {l m : List Dm.D} (ha : TupA H1 a vs) (hb : TupA H1 b us) (x : VRs g H1 h1 l vs) (y : VRs g H1 h1 m us) (r1 : HR g H1 h1) : ItR g h1 H1 (RZ.ItzT g.K a b) (Dm.zipD l m) fun _ => True where
  go := fun z i h H s r _ hi => by
    rw [zip_len] at hi
    have e1 := x.len
    have e2 := y.len
    exact ⟨vs, us, vs[i]'(by omega), us[i]'(by omega), T_of (ha.stp' r1.noT s), T_of (hb.stp' r1.noT s), by simp, by simp⟩
  stop := fun z i h H s r _ hi => by
    rw [zip_len] at hi
    have e1 := x.len
    have e2 := y.len
    exact ⟨vs, us, T_of (ha.stp' r1.noT s), T_of (hb.stp' r1.noT s), by omega⟩
  yld := fun zz i h H z H' hz s r _ hi ⟨T, z1, z2, e1, e2, e3, q1, q2⟩ => by
    subst e1 e3
    obtain ⟨d, ed, xd⟩ := (oldV r1 hz s x).get' (q1 vs (T_of (ha.stp' r1.noT s)))
    obtain ⟨e, ee, xe⟩ := (oldV r1 hz s y).get' (q2 us (T_of (hb.stp' r1.noT s)))
    obtain ⟨st, r', x'⟩ := pair_new r e2 xd xe
    exact ⟨_, zip_get l m i d e ed ee, st, r', x'⟩
end
section
variable {X : Cx} {cm : CM} {hidn : Hdn} {ac : Acc}
theorem di_seq {tg e : Expr} {t : Dm.TE} (he : PE X e (LE (gOf X cm hidn) ac t)) : PI X tg e (LI (gOf X cm hidn) ac (Dm.iSeq t)) := (pi_seq he).imp fun σ H R ⟨s, h, E, P, sr, hr, hac, q, k⟩ => by
  refine LE.mk sr hr hac q fun d h1 v H1 q1 s1 r1 x1 => ?_
  cases d with
  | tup l =>
    obtain ⟨a, vs, rfl, ha, la, xa⟩ := vT x1
    exact ⟨a, rfl, .inr ⟨vs, T_of ha, k _ _ _ _ _ q1 s1 r1 trivial la (itt_tup ha xa r1)⟩⟩
  | lst l =>
    obtain ⟨a, vs, rfl, ha, hn, la, xa⟩ := vL x1
    exact ⟨a, rfl, .inl ⟨vs, L_of ha, k _ _ _ _ _ q1 s1 r1 trivial la (itl_frozen ha hn xa r1)⟩⟩
  | scr l =>
    unfold VR at x1
    obtain ⟨a, vs, rfl, ha, la, xa⟩ := x1
    exact ⟨a, rfl, .inl ⟨vs, ha.sql, k _ _ _ _ _ q1 s1 r1 trivial la (itl_scr ha xa r1)⟩⟩
  | ref a =>
    obtain ⟨l, hl, q1⟩ := q1
    obtain rfl := vR x1
    obtain ⟨vs, e1, e2, e3⟩ := r1 a _ hl
    exact ⟨a, rfl, .inl ⟨vs, L_of e1, k _ _ _ _ _ q1 s1 r1 hl e2 itl_ref⟩⟩
  | _ => exact False.elim q1
theorem LA.one {t : Dm.TE} {σ : L2.St} {H : Hp} {Q : List V → Hp → Prop} {s : Dm.St} {h : Dm.Hd} {E : Dm.XP} {P : Dm.QP} (sr : SR (gOf X cm hidn) H h s σ) (hr : HR (gOf X cm hidn) H h) (hac : ac.ok h H σ E) (q : t s h E P)
    (k : ∀ d h1 v H1, P d h1 → Stp h H h1 H1 → HR (gOf X cm hidn) H1 h1 → VR (gOf X cm hidn) H1 h1 d v → Q [v] H1) : LA (gOf X cm hidn) ac (Dm.aCons t Dm.aNil) σ H Q := by
  refine ⟨s, h, E, fun ds h1 => ∃ d, ds = [d] ∧ P d h1, sr, hr, hac, ?_, fun ds h1 vs H1 ⟨d, e, q1⟩ s1 r1 x1 => ?_⟩
  · show t s h E fun x h1 => ∃ d, [x] = [d] ∧ P d h1
    have : (fun (x : Dm.D) (h1 : Dm.Hd) => ∃ d, [x] = [d] ∧ P d h1) = P := by
      funext x h1
      simp
    rw [this]
    exact q
  · subst e
    unfold VRs at x1
    obtain ⟨v, r, rfl, x2, x3⟩ := x1
    unfold VRs at x3
    subst x3
    exact k d h1 v H1 q1 s1 r1 x2
theorem di_rng1 {tg a : Expr} {p pos : Pos} {t : Dm.TE} (hm : X.mg "range" = none) (ha : PE X a (LE (gOf X cm hidn) ac t)) (hg : Gl X "range" := by rfl) (hs : starEach [a] X.env = [(false, eval a X.env)] := by rfl) : PI X tg (.Call (.Name "range" p) [a] [] pos) (LI (gOf X cm hidn) ac (Dm.iRng1 t)) :=
  (pi_range1 hg hm (da_cons ha da_nil (by rw [hs]; rfl)) hs).imp fun σ H R ⟨s, h, E, P, sr, hr, hac, q, k⟩ => by
    refine LA.one sr hr hac q fun d h1 v H1 ⟨j, e, z, q1⟩ s1 r1 x1 => ?_
    subst e
    obtain rfl := vI x1
    exact ⟨j, rfl, z.1, by omega, k _ _ _ _ _ q1 s1 r1 trivial (by rw [rng_len, sizeLine_eq]; omega) itr_rng⟩
theorem LA.two {t u : Dm.TE} {σ : L2.St} {H : Hp} {Q : List V → Hp → Prop} {s : Dm.St} {h : Dm.Hd} {E : Dm.XP} {P : Dm.D → Dm.D → Dm.Hd → Prop} (sr : SR (gOf X cm hidn) H h s σ) (hr : HR (gOf X cm hidn) H h) (hac : ac.ok h H σ E) (q : t s h E fun x h1 => u s h1 E fun y h2 => P x y h2)
    (k : ∀ d e h1 v w H1, P d e h1 → Stp h H h1 H1 → HR (gOf X cm hidn) H1 h1 → VR (gOf X cm hidn) H1 h1 d v → VR (gOf X cm hidn) H1 h1 e w → Q [v, w] H1) : LA (gOf X cm hidn) ac (Dm.aCons t (Dm.aCons u Dm.aNil)) σ H Q := by
  refine ⟨s, h, E, fun ds h1 => ∃ d e, ds = [d, e] ∧ P d e h1, sr, hr, hac, ?_, fun ds h1 vs H1 ⟨d, e, ed, q1⟩ s1 r1 x1 => ?_⟩
  · show t s h E fun x h1 => u s h1 E fun y h2 => ∃ d e, [x, y] = [d, e] ∧ P d e h2
    have : (fun (x : Dm.D) (h1 : Dm.Hd) => u s h1 E fun y h2 => ∃ d e, [x, y] = [d, e] ∧ P d e h2) = fun x h1 => u s h1 E fun y h2 => P x y h2 := by
      funext x h1
      congr 1
      funext y h2
      apply propext
      constructor
      · rintro ⟨d, e, z, q⟩
        simp only [List.cons.injEq, and_true] at z
        obtain ⟨rfl, rfl⟩ := z
        exact q
      · intro q
        exact ⟨x, y, rfl, q⟩
    rw [this]
    exact q
  · subst ed
    unfold VRs at x1
    obtain ⟨v, r, rfl, x2, x3⟩ := x1
    unfold VRs at x3
    obtain ⟨w, r', rfl, x4, x5⟩ := x3
    unfold VRs at x5
    subst x5
    exact k d e h1 v w H1 q1 s1 r1 x2 x4
theorem di_rng2 {tg a b : Expr} {p pos : Pos} {t u : Dm.TE} (hm : X.mg "range" = none) (ha : PE X a (LE (gOf X cm hidn) ac t)) (hb : PE X b (LE (gOf X cm hidn) ac u)) (hg : Gl X "range" := by rfl) (hs : starEach [a, b] X.env = [(false, eval a X.env), (false, eval b X.env)] := by rfl) (hs2 : starEach [b] X.env = [(false, eval b X.env)] := by rfl) :
    PI X tg (.Call (.Name "range" p) [a, b] [] pos) (LI (gOf X cm hidn) ac (Dm.iRng2 t u)) :=
  (pi_range2 hg hm (da_cons ha (da_cons hb da_nil (by rw [hs2]; rfl)) (by rw [hs, hs2])) hs hs2).imp fun σ H R ⟨s, h, E, P, sr, hr, hac, q, k⟩ => by
    refine LA.two sr hr hac q fun d e h1 v w H1 ⟨i, j, ed, ee, z, q1⟩ s1 r1 x1 x2 => ?_
    subst ed ee
    obtain rfl := vI x1
    obtain rfl := vI x2
    exact ⟨i, j, rfl, ⟨z.1, by omega, z.2.2.1, by omega⟩, k _ _ _ _ _ q1 s1 r1 trivial (by rw [rng_len, sizeLine_eq]; omega) itr_rng⟩
theorem di_enum {e : Expr} {p pos tpos : Pos} {elts : List Expr} {kk : Nat} {t : Dm.TE} (hm : X.mg "enumerate" = none) (he : PE X e (LE (gOf X cm hidn) ac t)) (hg : Gl X "enumerate" := by rfl) (hs : starEach [e] X.env = [(false, eval e X.env)] := by rfl) :
    PI X (.Tuple elts kk tpos) (.Call (.Name "enumerate" p) [e] [] pos) (LI (gOf X cm hidn) ac (Dm.iEnum t)) := (pi_enumA hg hm (da_cons he da_nil (by rw [hs]; rfl)) hs).imp fun σ H R ⟨s, h, E, P, sr, hr, hac, q, k⟩ => by
  refine LA.one sr hr hac q fun d h1 v H1 q1 s1 r1 x1 => ?_
  cases d with
  | tup l =>
    obtain ⟨a, vs, rfl, ha, la, xa⟩ := vT x1
    exact ⟨a, rfl, .inr ⟨vs, T_of ha, k _ _ _ _ _ q1 s1 r1 trivial (by rw [enum_len]; exact la) (ite_tup ha xa r1)⟩⟩
  | lst l =>
    obtain ⟨a, vs, rfl, ha, hn, la, xa⟩ := vL x1
    exact ⟨a, rfl, .inl ⟨vs, L_of ha, k _ _ _ _ _ q1 s1 r1 trivial (by rw [enum_len]; exact la) (ite_frozen ha hn xa r1)⟩⟩
  | ref a =>
    obtain ⟨l, hl, q1⟩ := q1
    obtain rfl := vR x1
    obtain ⟨vs, e1, e2, e3⟩ := r1 a _ hl
    exact ⟨a, rfl, .inl ⟨vs, L_of e1, k _ _ _ _ _ q1 s1 r1 hl (by rw [enum_len]; exact e2) ite_ref⟩⟩
  | _ => exact False.elim q1
theorem di_zip {e e2 : Expr} {p pos tpos : Pos} {elts : List Expr} {kk : Nat} {t u : Dm.TE} (hm : X.mg "zip" = none) (he : PE X e (LE (gOf X cm hidn) ac t)) (he2 : PE X e2 (LE (gOf X cm hidn) ac u)) (hg : Gl X "zip" := by rfl)
    (hs : starEach [e, e2] X.env = (false, eval e X.env) :: starEach [e2] X.env := by rfl) (hs2 : starEach [e2] X.env = [(false, eval e2 X.env)] := by rfl) (hpl : (backTo pos (starEach [e2] X.env)).any (·.1) = false := by rfl) :
    PI X (.Tuple elts kk tpos) (.Call (.Name "zip" p) [e, e2] [] pos) (LI (gOf X cm hidn) ac (Dm.iZip t u)) := (RZ.pi_zipA hg hm (da_cons he (da_cons he2 da_nil (by rw [hs2]; rfl)) hs) hs hpl).imp fun σ H R ⟨s, h, E, P, sr, hr, hac, q, k⟩ => by
  refine LA.two sr hr hac q fun d e h1 v w H1 ⟨l, m, ed, ee, q1⟩ s1 r1 x1 x2 => ?_
  subst ed ee
  obtain ⟨a, vs, rfl, ha, la, xa⟩ := vT x1
  obtain ⟨b, us, rfl, hb, lb, xb⟩ := vT x2
  exact ⟨a, b, vs, us, rfl, .inr ⟨T_of ha, T_of hb, k _ _ _ _ _ q1 s1 r1 trivial (by rw [zip_len]; omega) (itz_tup ha hb xa xb r1)⟩⟩
/-! ### for -/
theorem ds_for {tg iter : Expr} {body : List Stmt} {pos : Pos} {it : Dm.TI} {g : Dm.TG} {b : Dm.TS} (hp : PassesOwn (model X.prog X.w) X.A X.env X.xe) (hc : X.calm = true) (hi : PI X tg iter (LI (gOf X cm hidn) ac it)) (hg : PG X tg (LG (gOf X cm hidn) ac anyS g)) (hb : PSs X body (LS (gOf X cm hidn) ac b))
    (hs : ∀ x, foldedSetIterable iter X.env x = pure x := by intro _; rfl) : PS X (.For tg iter body [] pos) (LS (gOf X cm hidn) ac (Dm.sFor it g b)) := (ps_for hp hc hi hg hb hs).imp fun D σ H ⟨s, h, P, sr, hr, q, k⟩ => by
  refine ⟨s, h, _, _, sr, hr, k.ex s h σ H (Stp.refl _ _) hr sr, q, fun l ok h1 H1 J q1 s1 r1 k1 hl IR => ?_⟩
  refine ⟨fun i m σ' H' => m = l.length - i ∧ i ≤ l.length ∧ ∃ s' h', SR (gOf X cm hidn) H' h' s' σ' ∧ HR (gOf X cm hidn) H' h' ∧ Stp h1 H1 h' H' ∧ ok h' ∧ Dm.forL ok g b P (l.drop i) s' h', ⟨l.length, by omega, Nat.zero_le _, s, h1, sr.stp hr s1, r1, Stp.refl _ _, k1, q1⟩, ?_⟩
  rintro i m σ' H' ⟨rfl, hi', s', h', sr', r', st', k', q'⟩
  by_cases hlt : i < l.length
  · refine .inr ⟨IR.go hidn i h' H' st' r' k' hlt, fun σ2 H2 => ∃ s2 h2, SR (gOf X cm hidn) H2 h2 s2 σ2 ∧ HR (gOf X cm hidn) H2 h2 ∧ Stp h1 H1 h2 H2 ∧ ok h2 ∧ Dm.forL ok g b P (l.drop (i + 1)) s2 h2, fun σ2 H2 n => ⟨l.length - (i + 1), by omega, rfl, hlt, n⟩, fun x H2 y => ?_⟩
    obtain ⟨d, ed, sd, rd, xd⟩ := IR.yld hidn i h' H' x H2 (fun _ z => .inl z) st' r' k' hlt y
    rw [List.drop_eq_getElem_cons hlt] at q'
    have ed' : l[i] = d := by
      rw [List.getElem?_eq_getElem hlt] at ed
      exact Option.some.inj ed
    rw [ed'] at q'
    have s0 := (s1.trans st').trans sd
    refine ⟨d, s', h', _, _, xd, sr'.stp r' sd, rd, fun s3 h3 σ3 H3 st3 r3 sr3 => ?_, q', fun s3 h3 σ3 H3 q3 st3 r3 sr3 _ => ?_⟩
    · exact ac.mono (k.ex s3 h3 σ3 H3 (s0.trans st3) r3 sr3) fun e z q => q s3
    · have s03 := s0.trans st3
      refine ⟨s3, h3, _, sr3, r3, q3, ⟨fun s4 h4 σ4 H4 q4 st4 r4 sr4 => ?_, fun s4 h4 σ4 H4 q4 st4 r4 sr4 => k.nx _ _ _ _ q4 (s03.trans st4) r4 sr4, fun s4 h4 σ4 H4 q4 st4 r4 sr4 => ?_, fun d4 h4 v4 H4 q4 st4 => k.rt _ _ _ _ q4 (s03.trans st4), fun s4 h4 σ4 H4 st4 => k.ex _ _ _ _ (s03.trans st4)⟩⟩
      · exact ⟨s4, h4, sr4, r4, ((st'.trans sd).trans st3).trans st4, q4.1, q4.2⟩
      · exact ⟨s4, h4, sr4, r4, ((st'.trans sd).trans st3).trans st4, q4.1, q4.2⟩
  · have e : i = l.length := by omega
    subst e
    rw [List.drop_length] at q'
    exact .inl ⟨IR.stop hidn _ h' H' st' r' k' (Nat.le_refl _), k.nx _ _ _ _ q' (s1.trans st') r' sr'⟩
/-! ### while -/
theorem ds_while {c : Expr} {body : List Stmt} {pos : Pos} {t : Dm.TT} {b : Dm.TS} (hp : PassesOwn (model X.prog X.w) X.A X.env X.xe) (hc : PT X c (LT (gOf X cm hidn) ac t)) (hb : PSs X body (LS (gOf X cm hidn) ac b)) : PS X (.While c body [] pos) (LS (gOf X cm hidn) ac (Dm.sWhile t b)) := (ps_while hp hc hb).imp fun D σ H ⟨s, h, P, sr, hr, ⟨n, q⟩, k⟩ => by
  refine ⟨fun m σ' H' => ∃ s' h', SR (gOf X cm hidn) H' h' s' σ' ∧ HR (gOf X cm hidn) H' h' ∧ Stp h H h' H' ∧ Dm.whN t b P m s' h', ⟨n, s, h, sr, hr, Stp.refl _ _, q⟩, ?_⟩
  rintro m σ' H' ⟨s', h', sr', r', st', q'⟩
  cases m with
  | zero => exact False.elim q'
  | succ m =>
    refine LT.bind sr' r' (k.ex _ _ _ _ st' r' sr') q' fun c h1 H1 q1 s1 r1 => ?_
    have s01 := st'.trans s1
    cases c with
    | true =>
      rw [if_pos rfl] at q1 ⊢
      refine ⟨fun σ2 H2 => ∃ s2 h2, SR (gOf X cm hidn) H2 h2 s2 σ2 ∧ HR (gOf X cm hidn) H2 h2 ∧ Stp h H h2 H2 ∧ Dm.whN t b P m s2 h2, fun σ2 H2 n => ⟨m, Nat.lt_succ_self _, n⟩, s', h1, _, sr'.stp r' s1, r1, q1, ?_⟩
      exact ⟨fun s4 h4 σ4 H4 q4 st4 r4 sr4 => ⟨s4, h4, sr4, r4, s01.trans st4, q4⟩, fun s4 h4 σ4 H4 q4 st4 r4 sr4 => k.nx _ _ _ _ q4 (s01.trans st4) r4 sr4, fun s4 h4 σ4 H4 q4 st4 r4 sr4 => ⟨s4, h4, sr4, r4, s01.trans st4, q4⟩, fun d4 h4 v4 H4 q4 st4 => k.rt _ _ _ _ q4 (s01.trans st4), fun s4 h4 σ4 H4 st4 => k.ex _ _ _ _ (s01.trans st4)⟩
    | false =>
      rw [if_neg Bool.false_ne_true] at q1 ⊢
      exact k.nx _ _ _ _ q1 s01 r1 (sr'.stp r' s1)
end
end Dr
end S_DLoop
section S_DComp
set_option Elab.async false
set_option linter.all false
set_option maxRecDepth 100000
set_option maxHeartbeats 1000000
/-! DComp: list comprehensions; what is assigned; defs. -/
namespace Dr
open PySem PySem.Spec PyProof.Rows L2
def wipeS (vs : List Nat) : Slt := ⟨fun a b => L2.wipe b vs = L2.wipe a vs, fun _ => rfl, fun x y => y.trans x⟩
theorem wipe_set {i : Nat} : ∀ {vs : List Nat} (σ : L2.St) (v : Option V), i ∈ vs → L2.wipe (σ.set i v) vs = L2.wipe σ vs
  | [], _, _, h => by simp at h
  | j :: vs, σ, v, h => by
    unfold L2.wipe
    by_cases e : i ∈ vs
    · rw [wipe_set σ v e]
    · have ej : i = j := by simpa [e] using h
      subst ej
      have comm : ∀ (vs : List Nat), i ∉ vs → L2.wipe (σ.set i v) vs = (L2.wipe σ vs).set i v := by
        intro vs
        induction vs with
        | nil => intro _; rfl
        | cons k vs ih =>
          intro hk
          rw [List.mem_cons, not_or] at hk
          unfold L2.wipe
          rw [ih hk.2, List.set_comm _ _ hk.1]
      rw [comm vs e, List.set_set]
theorem wipe_mem {vs : List Nat} {i : Nat} (h : i ∈ vs) : ∀ (σ : L2.St) (v : Option V), (wipeS vs).r σ (σ.set i v) := fun σ v => wipe_set σ v h
/-- an element's reading, whatever is hidden -/
def XG (X : Cx) (cm : CM) (R : Slt) (t : Dm.TG) : L2.TG := fun v σ H Q => ∃ z, LG (gOf X cm z) acc0 R t v σ H Q
def XT (X : Cx) (cm : CM) (t : Dm.TT) : L2.TT := fun σ H Q => ∃ z, LT (gOf X cm z) acc0 t σ H Q
def XEl (X : Cx) (cm : CM) (t : Dm.TE) : L2.TE := fun σ H Q => ∃ z, LE (gOf X cm z) acc0 t σ H Q
section
variable {X : Cx} {cm : CM} {hidn : Hdn} {ac : Acc}
theorem xg {Y : Cx} {tg : Expr} {R : Slt} {t : Dm.TG} (h : ∀ z, PG Y tg (LG (gOf X cm z) acc0 R t)) : PG Y tg (XG X cm R t) := ⟨fun pins s σ H v u Q I r ⟨z, q⟩ => (h z).run pins s σ H v u Q I r q⟩
theorem xt {Y : Cx} {es : List Expr} {t : Dm.TT} (h : ∀ z, PTs Y es (LT (gOf X cm z) acc0 t)) : PTs Y es (XT X cm t) := ⟨fun pins s σ H Q I ⟨z, q⟩ => (h z).run pins s σ H Q I q⟩
theorem xe {Y : Cx} {e : Expr} {t : Dm.TE} (h : ∀ z, PE Y e (LE (gOf X cm z) acc0 t)) : PE Y e (XEl X cm t) := ⟨fun pins s σ H Q I ⟨z, q⟩ => (h z).run pins s σ H Q I q⟩
theorem dts_nil {Y : Cx} {z : Hdn} : PTs Y [] (LT (gOf X cm z) acc0 Dm.tYes) := ⟨fun pins s σ H Q I ⟨s', h, E, P, sr, hr, hac, q, k⟩ => pts_nil.run pins s σ H Q I (k true h H q (Stp.refl _ _) hr)⟩
theorem dts_one {Y : Cx} {z : Hdn} {c : Expr} {t : Dm.TT} (h : PT Y c (LT (gOf X cm z) acc0 t)) : PTs Y [c] (LT (gOf X cm z) acc0 t) := pts_one h
/-- the reading of a comprehension -/
theorem lc_read {it : Dm.TI} {g : Dm.TG} {t : Dm.TT} {e : Dm.TE} {vs : List Nat} {σ : L2.St} {H : Hp} {Q : VK} {s : Dm.St} {h : Dm.Hd} {E : Dm.XP} {P : List Dm.D → Dm.Hd → Prop}
    (sr : SR (gOf X cm hidn) H h s σ) (hr : HR (gOf X cm hidn) H h) (hac : ac.ok h H σ E) (q : it s h E fun l ok h1 => Dm.lcL ok g t e (Dm.wipe s vs) P l [] h1)
    (k : ∀ ys h2 D us H2, P ys h2 → Stp h H h2 H2 → HR (gOf X cm (hidn.add D)) H2 h2 → HR (gOf X cm hidn) H2 h2 → (∀ u, H D = some u → h D = none → isTbl u = false → False) → h2 D = none → H2 D = some (.lst us) → ¬ hidn D → VRs (gOf X cm (hidn.add D)) H2 h2 ys us → VRs (gOf X cm hidn) H2 h2 ys us → ys.length ≤ sizeLine → Q (.ref D) H2) :
    L2.tLc (LI (gOf X cm hidn) ac it) (XG X cm (wipeS vs) g) (XT X cm t) (XEl X cm e) vs σ H Q := by
  refine ⟨s, h, E, _, sr, hr, hac, q, fun l ok h1 H1 J q1 s1 r1 k1 hl IR D nD => ?_⟩
  -- the places hidden while the list is made
  have hz : ∀ a, (hidn a ∨ a = D) → hidn a ∨ H1 a = none := fun a z => z.imp id fun e => by subst e; exact nD
  have T0 : ∀ a u, ¬ hidn a → H1 a = some u → ¬ (hidn a ∨ a = D) ∧ upd H1 D (.lst []) a = some u := fun a u n e => by
    have ne : a ≠ D := fun z => by subst z; rw [nD] at e; cases e
    exact ⟨fun z => z.elim n ne, by rw [upd_ne ne]; exact e⟩
  have T1 : ∀ {H2 : Hp} {o : HO} a u, ¬ (hidn a ∨ a = D) → H2 a = some u → ¬ (hidn a ∨ a = D) ∧ upd H2 D o a = some u := fun a u n e => ⟨n, by rw [upd_ne fun z => n (.inr z)]; exact e⟩
  have T2 : ∀ {H2 : Hp} a u, ¬ (hidn a ∨ a = D) → H2 a = some u → ¬ hidn a ∧ H2 a = some u := fun a u n e => ⟨fun z => n (.inl z), e⟩
  have st0 : Stp h1 H1 h1 (upd H1 D (.lst [])) := Stp.new nD
  have hr0 : HR (gOf X cm (hidn.add D)) (upd H1 D (.lst [])) h1 := r1.tr T0 fun a z => by
    rcases z with z | z
    · obtain ⟨z1, u, z2⟩ := r1.hd a z
      exact ⟨z1, u, by rw [upd_ne (fun z => by subst z; rw [nD] at z2; cases z2.1)]; exact z2⟩
    · subst z; exact ⟨r1.off nD, _, upd_same, rfl⟩
  refine ⟨fun i m H2 => m = l.length - i ∧ i ≤ l.length ∧ ∃ h2 acc us, HR (gOf X cm (hidn.add D)) H2 h2 ∧ SR (gOf X cm (hidn.add D)) H2 h2 (Dm.wipe s vs) (L2.wipe σ vs) ∧ Stp h1 H1 h2 H2 ∧ H2 D = some (.lst us) ∧ ok h2 ∧
    VRs (gOf X cm (hidn.add D)) H2 h2 acc us ∧ acc.length ≤ i ∧ Dm.lcL ok g t e (Dm.wipe s vs) P (l.drop i) acc h2,
    ⟨l.length, by omega, Nat.zero_le _, h1, [], [], hr0, ((sr.stp hr s1).tr T0).wipe vs, st0, upd_same, k1, .nil, Nat.le_refl _, q1⟩, ?_⟩
  rintro i m H2 ⟨rfl, hi, h2, acc, us, r2, sr2, s2, eD, k2, xa, la, q2⟩
  have hD2 : h2 D = none := (r2.hd D (.inr rfl)).1
  by_cases hlt : i < l.length
  · refine .inr ⟨IR.go _ i h2 H2 s2 r2 k2 hlt, fun H3 => l.length - (i + 1) < l.length - i ∧ ∃ h3 acc us, HR (gOf X cm (hidn.add D)) H3 h3 ∧ SR (gOf X cm (hidn.add D)) H3 h3 (Dm.wipe s vs) (L2.wipe σ vs) ∧ Stp h1 H1 h3 H3 ∧ H3 D = some (.lst us) ∧ ok h3 ∧
      VRs (gOf X cm (hidn.add D)) H3 h3 acc us ∧ acc.length ≤ i + 1 ∧ Dm.lcL ok g t e (Dm.wipe s vs) P (l.drop (i + 1)) acc h3, fun H3 ⟨lt, n⟩ => ⟨_, lt, rfl, hlt, n⟩, fun x H3 y => ?_⟩
    obtain ⟨d, ed, sd, rd, xd⟩ := IR.yld (fun a => hidn a ∨ a = D) i h2 H2 x H3 hz s2 r2 k2 hlt y
    rw [List.drop_eq_getElem_cons hlt] at q2
    have ed' : l[i] = d := by
      rw [List.getElem?_eq_getElem hlt] at ed
      exact Option.some.inj ed
    rw [ed'] at q2
    have lt : l.length - (i + 1) < l.length - i := by omega
    have eD3 : H3 D = some (.lst us) := (sd D _ eD hD2 rfl).1
    -- the target
    refine ⟨_, d, Dm.wipe s vs, h2, _, _, xd, sr2.stp r2 sd, rd, fun s' h' σ' H' _ _ _ x h z => z, q2, fun s4 h4 σ4 H4 q4 st4 r4 sr4 wp => ⟨?_, ?_⟩⟩
    · have e1 : L2.wipe σ4 vs = L2.wipe (L2.wipe σ vs) vs := wp
      rw [e1]
      have idem : ∀ (ws : List Nat), (∀ w ∈ ws, w ∈ vs) → L2.wipe (L2.wipe σ vs) ws = L2.wipe σ vs := by
        intro ws
        induction ws with
        | nil => intro _; rfl
        | cons w ws ih =>
          intro hw
          have e2 : L2.wipe (L2.wipe σ vs) (w :: ws) = (L2.wipe (L2.wipe σ vs) ws).set w none := rfl
          rw [e2, ih fun z hz => hw z (List.mem_cons_of_mem _ hz)]
          apply List.ext_getElem?
          intro j
          by_cases hj : w = j
          · subst hj
            by_cases hlen : w < (L2.wipe σ vs).length
            · rw [List.getElem?_set_self hlen]
              cases q : (L2.wipe σ vs)[w]? with
              | none => rw [List.getElem?_eq_none_iff] at q; omega
              | some o =>
                cases o with
                | none => rfl
                | some v => exact absurd (hw w List.mem_cons_self) (wipe_some q).2
            · rw [List.getElem?_eq_none (by rw [List.length_set]; omega), List.getElem?_eq_none (by omega)]
          · rw [List.getElem?_set_ne hj]
      exact idem vs fun _ z => z
    -- the test
    have s34 := sd.trans st4
    have eD4 : H4 D = some (.lst us) := (s34 D _ eD hD2 rfl).1
    refine ⟨_, s4, h4, _, _, sr4, r4, (fun x h z => z), q4, fun b h5 H5 q5 st5 r5 => ?_⟩
    have s35 := s34.trans st5
    have eD5 : H5 D = some (.lst us) := (s35 D _ eD hD2 rfl).1
    cases b with
    | true =>
      rw [if_pos rfl] at q5
      refine iteT ?_
      refine ⟨_, s4, h5, _, _, sr4.stp r4 st5, r5, (fun x h z => z), q5, fun dy h6 v6 H6 ⟨ok6, q6⟩ st6 r6 x6 => ?_⟩
      have s36 := s35.trans st6
      have eD6 : H6 D = some (.lst us) := (s36 D _ eD hD2 rfl).1
      have ua := xa.len
      refine ⟨us, eD6, by omega, lt, h6, acc ++ [dy], us ++ [v6], r6.tr T1 fun a z => ?_, (sr2.stp r2 s36).tr T1, ?_, upd_same, ok6, VRs.tr T1 _ _ ((VRs.stp r2 s36 _ _ xa).app (.cons x6 .nil)), by rw [List.length_append]; simp; omega, q6⟩
      · obtain ⟨z1, u, z2⟩ := r6.hd a z
        refine ⟨z1, ?_⟩
        by_cases ea : a = D
        · subst ea; exact ⟨_, upd_same, rfl⟩
        · exact ⟨u, by rw [upd_ne ea]; exact z2⟩
      · intro a u ea na nt
        have ne : a ≠ D := fun z => by subst z; rw [nD] at ea; cases ea
        obtain ⟨z1, z2⟩ := (s2.trans s36) a u ea na nt
        exact ⟨by rw [upd_ne ne]; exact z1, z2⟩
    | false =>
      rw [if_neg Bool.false_ne_true] at q5
      refine iteF ?_
      exact ⟨lt, h5, acc, us, r5, sr2.stp r2 s35, s2.trans s35, eD5, q5.1, VRs.stp r2 s35 _ _ xa, by omega, q5.2⟩
  · have e : i = l.length := by omega
    subst e
    rw [List.drop_length] at q2
    refine .inl ⟨IR.stop _ _ h2 H2 s2 r2 k2 (Nat.le_refl _), ?_⟩
    refine k acc h2 D us H2 q2 (s1.trans s2) r2 (r2.tr T2 fun a z => (r2.hd a (.inl z))) ?_ hD2 eD (r1.nh nD) xa (VRs.tr T2 _ _ xa) (by omega)
    intro u qD qh nt
    have := (s1 D u qD qh nt).1
    rw [nD] at this
    cases this
theorem de_lc {elt tg iter : Expr} {ifs : List Expr} {scope : Scope} {own : List (Str × Nat)} {pos : Pos} {it : Dm.TI} {g : Dm.TG} {t : Dm.TT} {e : Dm.TE} (hc : X.calm = true) (hN : X.N.Nodup) (hi : PI X tg iter (LI (gOf X cm hidn) ac it)) (ok : BlkOk X.N X.env.scope scope own)
    (hg : ∀ (z : Hdn) (s : Shared) (H : Hp) (C : Addr) (cl : List (Str × Addr)) (fp : List Addr), PG (X.blk s H scope (compEnvC scope cl C X.env) fp) tg (LG (gOf (X.blk s H scope (compEnvC scope cl C X.env) fp) cm z) acc0 (wipeS (own.map (·.2))) g))
    (ht : ∀ (z : Hdn) (s : Shared) (H : Hp) (C : Addr) (cl : List (Str × Addr)) (fp : List Addr), PTs (X.blk s H scope (compEnvC scope cl C X.env) fp) ifs (LT (gOf (X.blk s H scope (compEnvC scope cl C X.env) fp) cm z) acc0 t))
    (he : ∀ (z : Hdn) (s : Shared) (H : Hp) (C : Addr) (cl : List (Str × Addr)) (fp : List Addr), PE (X.blk s H scope (compEnvC scope cl C X.env) fp) elt (LE (gOf (X.blk s H scope (compEnvC scope cl C X.env) fp) cm z) acc0 e))
    (hs : ∀ x, foldedSetIterable iter X.env x = pure x := by intro _; rfl) : PE X (.ListComp elt [⟨tg, iter, ifs, 0⟩] scope pos) (LE (gOf X cm hidn) ac (Dm.eLc it g t e (own.map (·.2)))) :=
  (pe_lc hc hN hi ok (g := XG X cm (wipeS (own.map (·.2))) g) (tt := XT X cm t) (te := XEl X cm e) (fun s H C cl fp => xg fun z => hg z s H C cl fp) (fun s H C cl fp => xt fun z => ht z s H C cl fp) (fun s H C cl fp => xe fun z => he z s H C cl fp) hs).imp
    fun σ H Q ⟨s, h, E, P, sr, hr, hac, q, k⟩ => lc_read sr hr hac q fun ys h2 D us H2 p st _ r nDD nD eD nh _ xs ln => k _ _ _ _ p st r (by unfold VR; exact ⟨D, us, rfl, nh, eD, nD, ln, xs⟩)
theorem de_lcH {elt tg iter : Expr} {ifs : List Expr} {scope : Scope} {own : List (Str × Nat)} {pos : Pos} {it : Dm.TI} {g : Dm.TG} {t : Dm.TT} {e : Dm.TE} (hc : X.calm = true) (hN : X.N.Nodup) (hi : PI X tg iter (LI (gOf X cm hidn) ac it)) (ok : BlkOk X.N X.env.scope scope own)
    (hg : ∀ (z : Hdn) (s : Shared) (H : Hp) (C : Addr) (cl : List (Str × Addr)) (fp : List Addr), PG (X.blk s H scope (compEnvC scope cl C X.env) fp) tg (LG (gOf (X.blk s H scope (compEnvC scope cl C X.env) fp) cm z) acc0 (wipeS (own.map (·.2))) g))
    (ht : ∀ (z : Hdn) (s : Shared) (H : Hp) (C : Addr) (cl : List (Str × Addr)) (fp : List Addr), PTs (X.blk s H scope (compEnvC scope cl C X.env) fp) ifs (LT (gOf (X.blk s H scope (compEnvC scope cl C X.env) fp) cm z) acc0 t))
    (he : ∀ (z : Hdn) (s : Shared) (H : Hp) (C : Addr) (cl : List (Str × Addr)) (fp : List Addr), PE (X.blk s H scope (compEnvC scope cl C X.env) fp) elt (LE (gOf (X.blk s H scope (compEnvC scope cl C X.env) fp) cm z) acc0 e))
    (hs : ∀ x, foldedSetIterable iter X.env x = pure x := by intro _; rfl) : PE X (.ListComp elt [⟨tg, iter, ifs, 0⟩] scope pos) (LE (gOf X cm hidn) ac (Dm.eLcH it g t e (own.map (·.2)))) :=
  (pe_lc hc hN hi ok (g := XG X cm (wipeS (own.map (·.2))) g) (tt := XT X cm t) (te := XEl X cm e) (fun s H C cl fp => xg fun z => hg z s H C cl fp) (fun s H C cl fp => xt fun z => ht z s H C cl fp) (fun s H C cl fp => xe fun z => he z s H C cl fp) hs).imp
    fun σ H Q ⟨s, h, E, P, sr, hr, hac, q, k⟩ => lc_read sr hr hac q fun ys h2 D us H2 p st rH r nDD nD eD nh xH xs ln => by
      have st2 : Stp h H (Dm.up h2 D (.lst ys)) H2 := fun a u ea na nt => by
        have ne : a ≠ D := fun z => by subst z; exact nDD u ea na nt
        obtain ⟨z1, z2⟩ := st a u ea na nt
        exact ⟨z1, by rw [Dm.up_ne ne]; exact z2⟩
      -- h takes hold of D: nothing that is said speaks of it
      have T2 : ∀ a u, ¬ (hidn a ∨ a = D) → H2 a = some u → ¬ hidn a ∧ H2 a = some u := fun a u n e => ⟨fun z => n (.inl z), e⟩
      have Th : ∀ a, ¬ (hidn a ∨ a = D) → h2 a = none → (Dm.up h2 D (.lst ys)) a = none := fun a n e => by rw [Dm.up_ne fun z => n (.inr z)]; exact e
      refine k _ _ _ _ (p D nD) st2 ⟨fun a o ea => ?_, fun a z => ?_, fun pt hp => ?_⟩ xR
      · by_cases e : a = D
        · subst e
          rw [Dm.up_same] at ea
          cases ea
          exact ⟨us, eD, ln, VRs.trh T2 Th _ _ xH⟩
        · rw [Dm.up_ne e] at ea
          have x := rH a o ea
          have na := rH.nh2 ea
          cases o with
          | lst l => obtain ⟨vs, e1, e2, e3⟩ := x; exact ⟨vs, e1, e2, VRs.trh T2 Th l vs e3⟩
          | dct t l =>
            cases t with
            | false => obtain ⟨vs, e1, e2, e3⟩ := x; exact ⟨vs, e1, e2, ER.trh T2 Th l vs e3⟩
            | true => obtain ⟨vs, e1, e2, e3⟩ := x; exact ⟨vs, e1, e2, ERT.trh T2 Th l vs e3⟩
          | ins c fs => obtain ⟨dx, gs, e1, e3⟩ := x; exact ⟨dx, gs, e1, FR.trh T2 Th fs gs e3⟩
      · obtain ⟨z1, z2⟩ := r.hd a z
        have ne : a ≠ D := fun e => by subst e; exact nh z
        exact ⟨by rw [Dm.up_ne ne]; exact z1, z2⟩
      · exact (rH.tb pt hp).tr (z := hidn.p) T2 Th
/-! ### what is assigned -/
theorem LS.asg {t : Dm.TE} {g : Dm.TG} {D : Ends} {σ : L2.St} {H : Hp} (q : LS (gOf X cm hidn) ac (Dm.sAsg t g) D σ H) : L2.tAsg (LE (gOf X cm hidn) ac t) (LG (gOf X cm hidn) ac anyS g) D σ H := by
  obtain ⟨s, h, P, sr, hr, q, k⟩ := q
  refine LE.mk sr hr (k.ex s h σ H (Stp.refl _ _) hr sr) q fun d h1 v H1 q1 s1 r1 x1 => ?_
  exact ⟨d, s, h1, _, _, x1, sr.stp hr s1, r1, fun s' h' σ' H' st' r' sr' => ac.mono (k.ex s' h' σ' H' (s1.trans st') r' sr') fun e z q => q s', q1, fun s' h' σ' H' q' st' r' sr' _ => k.nx _ _ _ _ q' (s1.trans st') r' sr'⟩
theorem ds_asg {tg e : Expr} {pos : Pos} {t : Dm.TE} {g : Dm.TG} (he : PE X e (LE (gOf X cm hidn) ac t)) (hg : PG X tg (LG (gOf X cm hidn) ac anyS g)) (hs : swapsWithSole [tg] e pos.line X.env = pure false := by rfl) (hw : swappedStores [tg] e X.env = pure none := by rfl)
    (h1 : (assignEach [tg] X.env).map (·.2) = [assign tg X.env] := by rfl) : PS X (.Assign [tg] e pos) (LS (gOf X cm hidn) ac (Dm.sAsg t g)) := (ps_asg he hg hs hw h1).imp fun _ _ _ q => q.asg
/-- name = e -/
theorem ds_set {i : Nat} {x : Str} {e : Expr} {pos pos' : Pos} {t : Dm.TE} (hN : X.N.Nodup) (hi : X.N[i]? = some x) (hx : Loc X.env.scope x) (he : PE X e (LE (gOf X cm hidn) ac t)) (hs : swapsWith e (some (.Name x pos')) pos.line X.env = pure false := by rfl) (hf : X.fn x = true ∨ X.env.scope.names.lookup x = some .local := by first | exact .inl rfl | exact .inr rfl | assumption) :
    PS X (.Assign [.Name x pos'] e pos) (LS (gOf X cm hidn) ac (Dm.sAsg t (Dm.gN i))) := (ps_set hN hi hx he hs hf).imp fun D σ H ⟨s, h, P, sr, hr, q, k⟩ =>
  LE.mk sr hr (k.ex s h σ H (Stp.refl _ _) hr sr) q fun d h1 v H1 q1 s1 r1 x1 => k.nx _ _ _ _ q1 s1 r1 ((sr.stp hr s1).set i x1)
/-- x, y = a, b with plain local names -/
theorem ds_par {i j : Nat} {x y : Str} {a b : Expr} {px py pt : Pos} {kt k2 pt2} {pos : Pos} {t u : Dm.TE} (hc : X.calm = true) (hN : X.N.Nodup) (hi : X.N[i]? = some x) (hj : X.N[j]? = some y) (hij : i ≠ j)
    (hx : X.env.scope.names.lookup x = some .local) (hy : X.env.scope.names.lookup y = some .local) (ha : PE X a (LE (gOf X cm hidn) ac t)) (hb : PE X b (LE (gOf X cm hidn) ac u))
    (hw : swappedStores [.Tuple [.Name x px, .Name y py] kt pt] (.Tuple [a, b] k2 pt2) X.env = pure (some [x, y])) (hst : starEach [a, b] X.env = (false, eval a X.env) :: starEach [b] X.env := by rfl) (hst2 : starEach [b] X.env = (false, eval b X.env) :: starEach [] X.env := by rfl)
    (hs : swapsWithSole [.Tuple [.Name x px, .Name y py] kt pt] (.Tuple [a, b] k2 pt2) pos.line X.env = pure false := by rfl) :
    PS X (.Assign [.Tuple [.Name x px, .Name y py] kt pt] (.Tuple [a, b] k2 pt2) pos) (LS (gOf X cm hidn) ac (Dm.sAsg (Dm.eTup (Dm.aCons t (Dm.aCons u Dm.aNil))) (Dm.gTup 2 (Dm.gCons (Dm.gN i) (Dm.gCons (Dm.gN j) Dm.gNil))))) :=
  (ps_par hc hN hi hj hij hx hy (da_cons ha (da_cons hb da_nil hst2) hst) hw hs).imp fun D σ H ⟨s, h, P, sr, hr, q, k⟩ => by
    refine LA.two sr hr (k.ex s h σ H (Stp.refl _ _) hr sr) q fun d e h1 v w H1 ⟨_, l, el, _, d', ds, e1, e', ds', e2, q1⟩ s1 r1 x1 x2 => ?_
    cases el
    simp only [List.cons.injEq] at e1
    obtain ⟨rfl, rfl⟩ := e1
    simp only [List.cons.injEq] at e2
    obtain ⟨rfl, rfl⟩ := e2
    exact ⟨v, w, rfl, k.nx _ _ _ _ q1.2 s1 r1 (((sr.stp hr s1).set i x1).set j x2)⟩
/-- o.f = e -/
theorem ds_fld {o value : Expr} {f : String} {c : String} {pos pos' : Pos} {to tv : Dm.TE} (hc : Cls X.K (cm c)) (hn : NoAttr X.K (cm c) (Str.ofString f)) (ho : PE X o (LE (gOf X cm hidn) ac to)) (hv : PE X value (LE (gOf X cm hidn) ac tv)) (hs : swapsWith value (some (.Attribute o (Str.ofString f) pos')) pos.line X.env = pure false := by rfl) :
    PS X (.Assign [.Attribute o (Str.ofString f) pos'] value pos) (LS (gOf X cm hidn) ac (Dm.sFld c to f tv)) := (ps_fld ho hv hs).imp fun D σ H ⟨s, h, P, sr, hr, q, k⟩ => by
  have sr0 := sr
  refine LE.mk sr hr (k.ex s h σ H (Stp.refl _ _) hr sr) q fun d h1 v H1 q1 s1 r1 x1 => ?_
  have sr1 := sr.stp hr s1
  refine LE.mk sr1 r1 (k.ex s h1 σ H1 s1 r1 sr1) q1 fun x h2 xv H2 ⟨p, fs, ex, hp, hl, q2⟩ s2 r2 x2 => ?_
  subst ex
  obtain rfl := vR x2
  obtain ⟨dx, gs, e1, e2⟩ := r2 p _ hp
  have s12 := s1.trans s2
  have st : Stp h2 H2 (Dm.up h2 p (.ins c (Dm.putF f d fs))) (upd H2 p (.ins (cm c) dx (L2.putF (Str.ofString f) v gs))) := Stp.write hp
  refine ⟨p, cm c, dx, gs, rfl, e1, hc, hn, by rw [e2.len]; exact hl, ?_⟩
  exact k.nx _ _ _ _ q2 (s12.trans st) (r2.write hp ⟨dx, _, upd_same, put_FR (VR.stp r1 (s2.trans st) d v x1) (FR.stp r2 st _ _ e2)⟩) (sr.stp hr (s12.trans st))
end
end Dr
end S_DComp
section S_DBi
set_option Elab.async false
set_option linter.all false
set_option maxRecDepth 100000
set_option maxHeartbeats 1000000
/-! DBi: built-in functions, types and methods by data. -/
namespace Dr
open PySem PySem.Spec PyProof.Rows L2
section
variable {X : Cx} {cm : CM} {hidn : Hdn} {ac : Acc} {id : String} {x : Str} {p pos apos : Pos} {e o : Expr} {es : List Expr} {t : Dm.TA} {to : Dm.TE} {r : List Dm.D → Dm.Hd → Dm.QP → Prop} {rm : Dm.D → List Dm.D → Dm.Hd → Dm.QP → Prop}
theorem LE.callB {σ : L2.St} {H : Hp} {Q : VK} (q : LE (gOf X cm hidn) ac (Dm.eB r t) σ H Q) : tCB (LB (gOf X cm hidn) r) (LA (gOf X cm hidn) ac t) σ H Q := by
  obtain ⟨s, h, E, P, sr, hr, hac, q, k⟩ := q
  exact ⟨s, h, E, _, sr, hr, hac, q, fun ds h1 vs H1 q1 s1 r1 x1 => ⟨ds, h1, P, x1, r1, q1, EndE.stp k s1⟩⟩
theorem de_B (hc : CallR X (.builtin id) (LB (gOf X cm hidn) r)) (hm : X.mg x = none) (hv : bootBuiltins x = some (.builtin id)) (ha : PA X (e :: es) (LA (gOf X cm hidn) ac t)) (hg : Gl X x := by rfl) (hn : x ≠ "__name__" := by decide) (hdb : (x == ("__debug__" : Str)) = false := by decide)
    (he : starEach (e :: es) X.env = (false, eval e X.env) :: starEach es X.env := by rfl) (hpl : (backTo pos (starEach es X.env)).any (·.1) = false := by rfl) : PE X (.Call (.Name x p) (e :: es) [] pos) (LE (gOf X cm hidn) ac (Dm.eB r t)) := (pe_callB hc hg hm hv ha hn hdb he hpl).imp fun _ _ _ q => q.callB
theorem de_Ty (hc : CallR X (.type id) (LB (gOf X cm hidn) r)) (hm : X.mg x = none) (hv : bootBuiltins x = some (.type id)) (ha : PA X (e :: es) (LA (gOf X cm hidn) ac t)) (hg : Gl X x := by rfl) (hn : x ≠ "__name__" := by decide) (hdb : (x == ("__debug__" : Str)) = false := by decide)
    (he : starEach (e :: es) X.env = (false, eval e X.env) :: starEach es X.env := by rfl) (hpl : (backTo pos (starEach es X.env)).any (·.1) = false := by rfl) : PE X (.Call (.Name x p) (e :: es) [] pos) (LE (gOf X cm hidn) ac (Dm.eB r t)) := (pe_callTy hc hg hm hv ha hn hdb he hpl).imp fun _ _ _ q => q.callB
theorem CallR.imp {f : Value} {r r' : List V → Hp → VK → Prop} (c : CallR X f r) (h : ∀ xs H Q, r' xs H Q → r xs H Q) : CallR X f r' := fun pins s σ H xs us Q I rv q => c pins s σ H xs us Q I rv (h xs H Q q)
theorem MtR.imp {id : String} {r r' : V → List V → Hp → VK → Prop} (c : MtR X id r) (h : ∀ x xs H Q, r' x xs H Q → r x xs H Q) : MtR X id r' := fun pins s σ H x xs v us Q I rx rv q => c pins s σ H x xs v us Q I rx rv (h x xs H Q q)
theorem vs1 {g : Gd} {H : Hp} {h : Dm.Hd} {d : Dm.D} {vs : List V} (x : VRs g H h [d] vs) : ∃ v, vs = [v] ∧ VR g H h d v := by
  unfold VRs at x
  obtain ⟨v, r, rfl, a, b⟩ := x
  unfold VRs at b
  subst b
  exact ⟨v, rfl, a⟩
theorem vs2 {g : Gd} {H : Hp} {h : Dm.Hd} {d e : Dm.D} {vs : List V} (x : VRs g H h [d, e] vs) : ∃ v u, vs = [v, u] ∧ VR g H h d v ∧ VR g H h e u := by
  unfold VRs at x
  obtain ⟨v, r, rfl, a, b⟩ := x
  obtain ⟨u, rfl, c⟩ := vs1 b
  exact ⟨v, u, rfl, a, c⟩
/-- one argument -/
theorem LB.one {f : Value} {r' : List V → Hp → VK → Prop} {rr : List Dm.D → Dm.Hd → Dm.QP → Prop} (c : CallR X f r') (hrr : ∀ ds h Q, rr ds h Q → ∃ d, ds = [d])
    (h : ∀ d v h H P Q, VR (gOf X cm hidn) H h d v → HR (gOf X cm hidn) H h → rr [d] h P → EndE (gOf X cm hidn) h H P Q → r' [v] H Q) : CallR X f (LB (gOf X cm hidn) rr) := CallR.imp c fun vs H Q ⟨ds, hh, P, xs, hr, q, k⟩ => by
  obtain ⟨d, rfl⟩ := hrr _ _ _ q
  obtain ⟨v, rfl, xv⟩ := vs1 xs
  exact h d v hh H P Q xv hr q k
theorem one_of {rr : List Dm.D → Dm.Hd → Dm.QP → Prop} (h0 : ∀ h Q, ¬ rr [] h Q) (h2 : ∀ a b l h Q, ¬ rr (a :: b :: l) h Q) : ∀ ds h Q, rr ds h Q → ∃ d, ds = [d]
  | [], h, Q, q => absurd q (h0 h Q)
  | [d], _, _, _ => ⟨d, rfl⟩
  | a :: b :: l, h, Q, q => absurd q (h2 a b l h Q)
/-- a sequence that is no tuple -/
theorem sq_nt {g : Gd} {H : Hp} {h : Dm.Hd} (r : HR g H h) {d : Dm.D} {v : V} {l : List Dm.D} (x : VR g H h d v) (e : Dm.sq h d = some l) (nt : ∀ l, d ≠ .tup l) : ∃ a vs, v = .ref a ∧ SqL g.K H a vs ∧ l.length ≤ sizeLine ∧ VRs g H h l vs := by
  cases d with
  | tup m => exact absurd rfl (nt m)
  | lst m =>
    have : m = l := by simpa [Dm.sq] using e
    subst this
    obtain ⟨a, vs, e1, e2, _, e4, e5⟩ := vL x
    exact ⟨a, vs, e1, .inl (.inl e2), e4, e5⟩
  | scr m =>
    have : m = l := by simpa [Dm.sq] using e
    subst this
    unfold VR at x
    obtain ⟨a, vs, e1, e2, e4, e5⟩ := x
    exact ⟨a, vs, e1, e2.sql, e4, e5⟩
  | ref a =>
    obtain rfl := vR x
    unfold Dm.sq at e
    cases q : h a with
    | none => simp [q] at e
    | some o =>
      cases o with
      | lst m =>
        have : m = l := by simpa [q] using e
        subst this
        obtain ⟨vs, e1, e2, e3⟩ := r a _ q
        exact ⟨a, vs, rfl, .inl (.inl e1), e2, e3⟩
      | dct _ _ => simp [q] at e
      | ins _ _ => simp [q] at e
  | _ => simp [Dm.sq] at e
theorem cb_len : CallR X (.builtin "len") (LB (gOf X cm hidn) Dm.bLen) := LB.one call_len_seq (one_of (fun _ _ q => q) fun _ _ _ _ _ q => q) fun d v h H P Q xv hr ⟨l, e, q⟩ k => by
  obtain ⟨a, vs, rfl, hs, z, xs⟩ := sq_at hr xv e
  exact ⟨a, vs, rfl, hs, by rw [xs.len]; exact k.here hr q xI⟩
theorem cb_int : CallR X (.type "int") (LB (gOf X cm hidn) Dm.bInt) := CallR.imp call_int1 fun vs H Q ⟨ds, h, P, xs, hr, q, k⟩ => by
  match ds, q, xs with
  | [.int i], q, xs =>
    obtain ⟨v, rfl, xv⟩ := vs1 xs
    obtain rfl := vI xv
    exact .inl ⟨i, rfl, k.here hr q xI⟩
  | [.bl b], q, xs =>
    obtain ⟨v, rfl, xv⟩ := vs1 xs
    obtain rfl := vB xv
    exact .inr ⟨b, rfl, k.here hr q xI⟩
theorem cb_tuple : CallR X (.type "tuple") (LB (gOf X cm hidn) Dm.bTuple) := LB.one call_tuple_of (one_of (fun _ _ q => q) fun _ _ _ _ _ q => q) fun d v h H P Q xv hr ⟨l, e, q⟩ k => by
  by_cases nt : ∃ m, d = .tup m
  · obtain ⟨m, rfl⟩ := nt
    have em : m = l := by simpa [Dm.sq] using e
    subst em
    obtain ⟨a, us, rfl, ha, _, xa⟩ := vT xv
    exact ⟨a, us, rfl, .inr ⟨T_of ha, k.here hr q xv⟩⟩
  · obtain ⟨a, us, rfl, hs, z, xu⟩ := sq_nt hr xv e fun m z => nt ⟨m, z⟩
    exact ⟨a, us, rfl, .inl ⟨hs, fun p n => k.tup hr q xu z n⟩⟩
theorem cb_list : CallR X (.type "list") (LB (gOf X cm hidn) Dm.bList) := LB.one call_list_of (one_of (fun _ _ q => q) fun _ _ _ _ _ q => q) fun d v h H P Q xv hr ⟨l, e, q⟩ k => by
  obtain ⟨a, us, rfl, hs, z, xu⟩ := sq_at hr xv e
  exact ⟨a, us, rfl, hs, fun p n => k.lst hr q xu z n⟩
theorem cb_listH : CallR X (.type "list") (LB (gOf X cm hidn) Dm.bListH) := LB.one call_list_of (one_of (fun _ _ q => q) fun _ _ _ _ _ q => q) fun d v h H P Q xv hr ⟨l, e, q⟩ k => by
  obtain ⟨a, us, rfl, hs, z, xu⟩ := sq_at hr xv e
  exact ⟨a, us, rfl, hs, fun p n => k.lstH hr q xu z n⟩
theorem bools_vals {g : Gd} {H : Hp} {h : Dm.Hd} : ∀ {l : List Dm.D} {vs : List V} {bs : List Bool}, VRs g H h l vs → Dm.boolsOf l = some bs → vs = bs.map V.bl
  | [], _, bs, x, e => by
    unfold VRs at x
    subst x
    simp [Dm.boolsOf] at e
    subst e
    rfl
  | d :: l, _, bs, x, e => by
    unfold VRs at x
    obtain ⟨v, r, rfl, a, b⟩ := x
    cases d with
    | bl c =>
      obtain rfl := vB a
      simp only [Dm.boolsOf] at e
      cases f : Dm.boolsOf l with
      | none => simp [f] at e
      | some cs =>
        simp [f] at e
        subst e
        rw [bools_vals b f]
        rfl
    | _ => simp [Dm.boolsOf] at e
theorem cb_all (hc : X.calm = true) : CallR X (.builtin "all") (LB (gOf X cm hidn) Dm.bAll) := LB.one (cr_all hc) (one_of (fun _ _ q => q) fun _ _ _ _ _ q => q) fun d v h H P Q xv hr ⟨l, bs, e, eb, q⟩ k => by
  obtain ⟨a, vs, rfl, hs, z, xs⟩ := sqL_at hr xv e
  obtain rfl := bools_vals xs eb
  exact ⟨a, bs, rfl, L_of hs, k.here hr q xB⟩
theorem two_of {rr : List Dm.D → Dm.Hd → Dm.QP → Prop} {g : Gd} {ds : List Dm.D} {H : Hp} {h : Dm.Hd} {vs : List V} {P : Dm.QP} (x : VRs g H h ds vs) (f : ∀ i j, rr [.int i, .int j] h P → True) (q : rr ds h P) (h' : ∀ ds, rr ds h P → ∃ i j, ds = [.int i, .int j]) : ∃ i j, ds = [.int i, .int j] ∧ vs = [.int i, .int j] := by
  obtain ⟨i, j, rfl⟩ := h' ds q
  obtain ⟨v, u, rfl, a, b⟩ := vs2 x
  obtain rfl := vI a
  obtain rfl := vI b
  exact ⟨i, j, rfl, rfl⟩
theorem cb_max2 (hc : X.calm = true) : CallR X (.builtin "max") (LB (gOf X cm hidn) Dm.bMax2) := CallR.imp (call_max2 hc) fun vs H Q ⟨ds, h, P, xs, hr, q, k⟩ => by
  match ds, q, xs with
  | [.int i, .int j], q, xs =>
    obtain ⟨v, u, rfl, a, b⟩ := vs2 xs
    obtain rfl := vI a
    obtain rfl := vI b
    exact ⟨i, j, rfl, k.here hr q xI⟩
theorem cb_min2 (hc : X.calm = true) : CallR X (.builtin "min") (LB (gOf X cm hidn) Dm.bMin2) := CallR.imp (call_min2 hc) fun vs H Q ⟨ds, h, P, xs, hr, q, k⟩ => by
  match ds, q, xs with
  | [.int i, .int j], q, xs =>
    obtain ⟨v, u, rfl, a, b⟩ := vs2 xs
    obtain rfl := vI a
    obtain rfl := vI b
    exact ⟨i, j, rfl, k.here hr q xI⟩
/-! isinstance -/
theorem kit_tab (K : PySem.W.Frag) : ∀ m ∈ ("NoneType" :: Dm.tyNms), ∀ n ∈ Dm.tyNms, PySem.W.kitOne K (.type m) (.type n) = some (m == n || (m == "bool" && n == "int")) := by
  intro m hm n hn
  simp only [Dm.tyNms, List.mem_cons, List.not_mem_nil, or_false] at hm hn
  rcases hm with rfl | rfl | rfl | rfl | rfl | rfl | rfl | rfl <;> rcases hn with rfl | rfl | rfl | rfl | rfl | rfl | rfl <;> rfl
theorem ty_at {g : Gd} {H : Hp} {h : Dm.Hd} {d : Dm.D} {v : V} {m : String} (hr : HR g H h) (x : VR g H h d v) (e : Dm.tyNm h d = some m) : m ∈ ("NoneType" :: Dm.tyNms) ∧ TyX g.K H v (.type m) := by
  cases d with
  | non => cases e; obtain rfl := vN x; exact ⟨by decide, .base .non⟩
  | bl _ => cases e; obtain rfl := vB x; exact ⟨by decide, .base (.bl _)⟩
  | int _ => cases e; obtain rfl := vI x; exact ⟨by decide, .base (.int _)⟩
  | str _ => cases e; obtain rfl := vS x; exact ⟨by decide, .base (.str _)⟩
  | byt _ => cases e; unfold VR at x; subst x; exact ⟨by decide, .byt _⟩
  | tup _ => cases e; obtain ⟨a, _, rfl, ha, _⟩ := vT x; exact ⟨by decide, ha.elim (fun ha => .base (.tup ha)) fun ⟨o, ha, _⟩ => .fTuple ha⟩
  | lst _ => cases e; obtain ⟨a, _, rfl, ha, _⟩ := vL x; exact ⟨by decide, .base (.lst ha)⟩
  | scr _ =>
    cases e
    unfold VR at x
    obtain ⟨a, _, rfl, ha, _⟩ := x
    refine ⟨by decide, ?_⟩
    rcases ha with ⟨_, ⟨o, ha⟩ | ⟨_, ha⟩⟩ | (ha | ⟨o, its, n, hk, hc, _⟩)
    · exact .base (.frz ha)
    · exact .base (.lst ha)
    · rcases ha with ha | ⟨_, ha⟩ <;> cases ha
    · exact .kList hk hc
  | ref a =>
    obtain rfl := vR x
    unfold Dm.tyNm at e
    cases q : h a with
    | none => simp [q] at e
    | some o =>
      have y := hr a _ q
      cases o with
      | lst l =>
        simp [q] at e
        subst e
        obtain ⟨vs, e1, _⟩ := y
        exact ⟨by decide, .base (.lst e1)⟩
      | dct t l =>
        simp [q] at e
        subst e
        cases t with
        | false => obtain ⟨vs, e1, _⟩ := y; exact ⟨by decide, .base (.dK e1)⟩
        | true => obtain ⟨vs, e1, _⟩ := y; exact ⟨by decide, .base (.dT e1)⟩
      | ins _ _ => simp [q] at e
  | _ => cases e
theorem cb_isi : CallR X (.builtin "isinstance") (LB (gOf X cm hidn) Dm.bIsi) := CallR.imp call_isi fun vs H Q ⟨ds, h, P, xs, hr, q, k⟩ => by
  match ds, q, xs with
  | [d, .ty n], ⟨b, e, q⟩, xs =>
    obtain ⟨v, u, rfl, xv, xu⟩ := vs2 xs
    obtain rfl := vTy xu
    unfold Dm.isTy at e
    cases f : Dm.tyNm h d with
    | none => simp [f] at e
    | some m =>
      simp only [f] at e
      by_cases c : Dm.tyNms.contains n = true
      · rw [if_pos c] at e
        obtain ⟨h1, h2⟩ := ty_at hr xv f
        refine ⟨v, .ty n, .type m, .type n, b, rfl, .ty n, h2, ?_, k.here hr q xB⟩
        rw [kit_tab _ m h1 n (by simpa using c)]
        exact e
      · rw [if_neg c] at e
        cases e
/-! methods of lists -/
theorem LE.meth {o : Expr} {σ : L2.St} {H : Hp} {Q : VK} {T : String} {ty : Dm.D → Dm.Hd → Prop} (ht : ∀ d h v H, HR (gOf X cm hidn) H h → VR (gOf X cm hidn) H h d v → ty d h → tyV X.K T v H) (q : LE (gOf X cm hidn) ac (Dm.eM ty rm to t) σ H Q) :
    tBM X.K T (LM (gOf X cm hidn) rm) (LE (gOf X cm hidn) ac to) (LA (gOf X cm hidn) ac t) σ H Q := by
  obtain ⟨s, h, E, P, sr, hr, hac, q, k⟩ := q
  refine ⟨s, h, E, _, sr, hr, hac, q, fun d h1 v H1 ⟨hty, q1⟩ s1 r1 x1 => ⟨ht d h1 v H1 r1 x1 hty, s, h1, E, _, sr.stp hr s1, r1, ac.stp hac s1, q1, fun ds h2 vs H2 q2 s2 r2 x2 => ⟨d, ds, h2, P, VR.stp r1 s2 d v x1, x2, r2, q2, EndE.stp k (s1.trans s2)⟩⟩⟩
theorem tyL_list {d : Dm.D} {h : Dm.Hd} {v : V} {H : Hp} (hr : HR (gOf X cm hidn) H h) (x : VR (gOf X cm hidn) H h d v) (t : (∃ l, Dm.sqL h d = some l)) : tyV X.K "list" v H := by
  obtain ⟨l, e⟩ := t
  obtain ⟨a, vs, rfl, ha, _⟩ := sqL_at hr x e
  exact .inl ⟨rfl, vs, L_of ha⟩
theorem de_app (ho : PE X o (LE (gOf X cm hidn) ac to)) (ha : PA X (e :: es) (LA (gOf X cm hidn) ac t))
    (hbase : attributeBase o "append" X.env (eval o X.env) = eval o X.env := by rfl)
    (hfew : ((backTo pos (starEach (e :: es) X.env)).all (fun x => !x.1) && (backToKw pos (keywordEach [] X.env)).all (fun x => x.1.isSome)
      && decide ((e :: es).length + ([] : List Keyword).length + (if ([] : List Keyword).isEmpty then 0 else 1) < 30)) = true := by rfl)
    (hline : (apos.endLine == pos.line) = true := by rfl) (hs : starEach (e :: es) X.env = (false, eval e X.env) :: starEach es X.env := by rfl) (hplain : (backTo pos (starEach es X.env)).any (·.1) = false := by rfl) :
    PE X (.Call (.Attribute o "append" apos) (e :: es) [] pos) (LE (gOf X cm hidn) ac (Dm.eM Dm.tyL Dm.mApp to t)) :=
  (pe_bm F.plainAttrs_list F.slot_list_append F.type_list_append (MtR.imp (mt_append (X := X)) fun x xs H Q ⟨d, ds, h, P, xd, xds, hr, q, k⟩ => by
    match d, ds, q, xd, xds with
    | .ref p, [z], ⟨l, e, zl, q⟩, xd, xds =>
      obtain rfl := vR xd
      obtain ⟨v, rfl, xv⟩ := vs1 xds
      obtain ⟨vs, e1, e2, e3⟩ := hr p _ e
      have hz := lim_size
      refine ⟨p, vs, v, rfl, rfl, e1, by rw [e3.len]; omega, ?_⟩
      have st : Stp h H (Dm.up h p (.lst (l ++ [z]))) (upd H p (.lst (vs ++ [v]))) := Stp.write e
      exact k _ _ _ _ q st (hr.write e ⟨_, upd_same, by rw [List.length_append]; simp; omega, (VRs.stp hr st _ _ e3).app (.cons (VR.stp hr st _ _ xv) .nil)⟩) xN) ho ha hbase hfew hline hs hplain).imp fun σ H Q q =>
    LE.meth (o := o) (fun d h v H hr x ty => tyL_list hr x ty) q
theorem de_ext (ho : PE X o (LE (gOf X cm hidn) ac to)) (ha : PA X (e :: es) (LA (gOf X cm hidn) ac t))
    (hbase : attributeBase o "extend" X.env (eval o X.env) = eval o X.env := by rfl)
    (hfew : ((backTo pos (starEach (e :: es) X.env)).all (fun x => !x.1) && (backToKw pos (keywordEach [] X.env)).all (fun x => x.1.isSome)
      && decide ((e :: es).length + ([] : List Keyword).length + (if ([] : List Keyword).isEmpty then 0 else 1) < 30)) = true := by rfl)
    (hline : (apos.endLine == pos.line) = true := by rfl) (hs : starEach (e :: es) X.env = (false, eval e X.env) :: starEach es X.env := by rfl) (hplain : (backTo pos (starEach es X.env)).any (·.1) = false := by rfl) :
    PE X (.Call (.Attribute o "extend" apos) (e :: es) [] pos) (LE (gOf X cm hidn) ac (Dm.eM Dm.tyL Dm.mExt to t)) :=
  (pe_bm F.plainAttrs_list F.slot_list_extend F.type_list_extend (MtR.imp (mt_extend (X := X)) fun x xs H Q ⟨d, ds, h, P, xd, xds, hr, q, k⟩ => by
    match d, ds, q, xd, xds with
    | .ref p, [z], ⟨l, m, e, ez, zl, q⟩, xd, xds =>
      obtain rfl := vR xd
      obtain ⟨v, rfl, xv⟩ := vs1 xds
      obtain ⟨vs, e1, e2, e3⟩ := hr p _ e
      obtain ⟨b, us, rfl, hb, _, xb⟩ := sqL_at hr xv ez
      have hz := lim_size
      refine ⟨p, b, vs, us, rfl, rfl, e1, hb, by rw [e3.len, xb.len]; omega, ?_⟩
      have st : Stp h H (Dm.up h p (.lst (l ++ m))) (upd H p (.lst (vs ++ us))) := Stp.write e
      exact k _ _ _ _ q st (hr.write e ⟨_, upd_same, by rw [List.length_append]; omega, (VRs.stp hr st _ _ e3).app (VRs.stp hr st _ _ xb)⟩) xN) ho ha hbase hfew hline hs hplain).imp fun σ H Q q =>
    LE.meth (o := o) (fun d h v H hr x ty => tyL_list hr x ty) q
end
end Dr
end S_DBi
section S_DSrt
set_option Elab.async false
set_option linter.all false
set_option maxRecDepth 100000
set_option maxHeartbeats 1000000
/-! DSrt: order of data; sorted, min, max, remove, index. -/
namespace Dr
open PySem PySem.Spec PyProof.Rows L2 PySem.W
mutual
theorem mk_plain : ∀ (n : Nat) (m : Dm.Mk) (d : Dm.D), Dm.mkDep m ≤ n → Dm.mkOk m d = true → Dm.plain n d = true
  | n, .int, .int i, _, _ => by unfold Dm.plain; rfl
  | n, .tup ms, .tup l, hn, h => by
    unfold Dm.mkOk at h
    unfold Dm.mkDep at hn
    unfold Dm.plain
    rw [Bool.and_eq_true, decide_eq_true_iff]
    exact ⟨by omega, mk_plainL (n - 1) ms l (by omega) h⟩
  | n, .tups m, .tup l, hn, h => by
    unfold Dm.mkOk at h
    unfold Dm.mkDep at hn
    unfold Dm.plain
    rw [Bool.and_eq_true, decide_eq_true_iff]
    exact ⟨by omega, mk_plainA (n - 1) m l (by omega) h⟩
  | n, .lsts m, .lst l, hn, h => by
    unfold Dm.mkOk at h
    unfold Dm.mkDep at hn
    unfold Dm.plain
    rw [Bool.and_eq_true, decide_eq_true_iff]
    exact ⟨by omega, mk_plainA (n - 1) m l (by omega) h⟩
  | _, .int, .non, _, h | _, .int, .bl _, _, h | _, .int, .str _, _, h | _, .int, .byt _, _, h | _, .int, .tup _, _, h | _, .int, .lst _, _, h | _, .int, .scr _, _, h | _, .int, .set _, _, h | _, .int, .ref _, _, h | _, .int, .ty _, _, h | _, .int, .exc _ _ _ _ _, _, h | _, .int, .lam _, _, h => by simp [Dm.mkOk] at h
  | _, .tup _, .non, _, h | _, .tup _, .bl _, _, h | _, .tup _, .str _, _, h | _, .tup _, .byt _, _, h | _, .tup _, .int _, _, h | _, .tup _, .lst _, _, h | _, .tup _, .scr _, _, h | _, .tup _, .set _, _, h | _, .tup _, .ref _, _, h | _, .tup _, .ty _, _, h | _, .tup _, .exc _ _ _ _ _, _, h | _, .tup _, .lam _, _, h => by simp [Dm.mkOk] at h
  | _, .tups _, .non, _, h | _, .tups _, .bl _, _, h | _, .tups _, .str _, _, h | _, .tups _, .byt _, _, h | _, .tups _, .int _, _, h | _, .tups _, .lst _, _, h | _, .tups _, .scr _, _, h | _, .tups _, .set _, _, h | _, .tups _, .ref _, _, h | _, .tups _, .ty _, _, h | _, .tups _, .exc _ _ _ _ _, _, h | _, .tups _, .lam _, _, h => by simp [Dm.mkOk] at h
  | _, .lsts _, .non, _, h | _, .lsts _, .bl _, _, h | _, .lsts _, .str _, _, h | _, .lsts _, .byt _, _, h | _, .lsts _, .int _, _, h | _, .lsts _, .tup _, _, h | _, .lsts _, .scr _, _, h | _, .lsts _, .set _, _, h | _, .lsts _, .ref _, _, h | _, .lsts _, .ty _, _, h | _, .lsts _, .exc _ _ _ _ _, _, h | _, .lsts _, .lam _, _, h => by simp [Dm.mkOk] at h
theorem mk_plainL : ∀ (n : Nat) (ms : List Dm.Mk) (l : List Dm.D), Dm.mkDepL ms ≤ n → Dm.mkOkL ms l = true → Dm.plainL n l = true
  | _, [], [], _, _ => by unfold Dm.plainL; rfl
  | n, m :: ms, d :: l, hn, h => by
    unfold Dm.mkOkL at h
    unfold Dm.mkDepL at hn
    rw [Bool.and_eq_true] at h
    unfold Dm.plainL
    rw [mk_plain n m d (by omega) h.1, mk_plainL n ms l (by omega) h.2]
    rfl
  | _, [], _ :: _, _, h => by simp [Dm.mkOkL] at h
  | _, _ :: _, [], _, h => by simp [Dm.mkOkL] at h
theorem mk_plainA : ∀ (n : Nat) (m : Dm.Mk) (l : List Dm.D), Dm.mkDep m ≤ n → Dm.mkOkA m l = true → Dm.plainL n l = true
  | _, _, [], _, _ => by unfold Dm.plainL; rfl
  | n, m, d :: l, hn, h => by
    unfold Dm.mkOkA at h
    rw [Bool.and_eq_true] at h
    unfold Dm.plainL
    rw [mk_plain n m d hn h.1, mk_plainA n m l hn h.2]
    rfl
end
mutual
theorem mk_alike : ∀ (m : Dm.Mk) (d e : Dm.D), Dm.mkOk m d = true → Dm.mkOk m e = true → alike (py d) (py e) = true
  | .int, .int i, e, _, h => by
    cases e <;> first | (simp [Dm.mkOk] at h; done) | (simp [py, alike])
  | .tup ms, .tup l, e, h, h' => by
    cases e with
    | tup k =>
      unfold Dm.mkOk at h h'
      simp only [py, alike]
      exact mk_alikeL ms l k h h'
    | _ => simp [Dm.mkOk] at h'
  | .tups m, .tup l, e, h, h' => by
    cases e with
    | tup k =>
      unfold Dm.mkOk at h h'
      simp only [py, alike]
      exact mk_alikeA m l k h h'
    | _ => simp [Dm.mkOk] at h'
  | .lsts m, .lst l, e, h, h' => by
    cases e with
    | lst k =>
      unfold Dm.mkOk at h h'
      simp only [py, alike]
      exact mk_alikeA m l k h h'
    | _ => simp [Dm.mkOk] at h'
  | .int, .non, _, h, _ | .int, .bl _, _, h, _ | .int, .str _, _, h, _ | .int, .byt _, _, h, _ | .int, .tup _, _, h, _ | .int, .lst _, _, h, _ | .int, .scr _, _, h, _ | .int, .set _, _, h, _ | .int, .ref _, _, h, _ | .int, .ty _, _, h, _ | .int, .exc _ _ _ _ _, _, h, _ | .int, .lam _, _, h, _ => by simp [Dm.mkOk] at h
  | .tup _, .non, _, h, _ | .tup _, .bl _, _, h, _ | .tup _, .str _, _, h, _ | .tup _, .byt _, _, h, _ | .tup _, .int _, _, h, _ | .tup _, .lst _, _, h, _ | .tup _, .scr _, _, h, _ | .tup _, .set _, _, h, _ | .tup _, .ref _, _, h, _ | .tup _, .ty _, _, h, _ | .tup _, .exc _ _ _ _ _, _, h, _ | .tup _, .lam _, _, h, _ => by simp [Dm.mkOk] at h
  | .tups _, .non, _, h, _ | .tups _, .bl _, _, h, _ | .tups _, .str _, _, h, _ | .tups _, .byt _, _, h, _ | .tups _, .int _, _, h, _ | .tups _, .lst _, _, h, _ | .tups _, .scr _, _, h, _ | .tups _, .set _, _, h, _ | .tups _, .ref _, _, h, _ | .tups _, .ty _, _, h, _ | .tups _, .exc _ _ _ _ _, _, h, _ | .tups _, .lam _, _, h, _ => by simp [Dm.mkOk] at h
  | .lsts _, .non, _, h, _ | .lsts _, .bl _, _, h, _ | .lsts _, .str _, _, h, _ | .lsts _, .byt _, _, h, _ | .lsts _, .int _, _, h, _ | .lsts _, .tup _, _, h, _ | .lsts _, .scr _, _, h, _ | .lsts _, .set _, _, h, _ | .lsts _, .ref _, _, h, _ | .lsts _, .ty _, _, h, _ | .lsts _, .exc _ _ _ _ _, _, h, _ | .lsts _, .lam _, _, h, _ => by simp [Dm.mkOk] at h
theorem mk_alikeL : ∀ (ms : List Dm.Mk) (l k : List Dm.D), Dm.mkOkL ms l = true → Dm.mkOkL ms k = true → alikeAll (pyL l) (pyL k) = true
  | [], [], k, _, _ => by simp [pyL, alikeAll]
  | m :: ms, d :: l, k, h, h' => by
    cases k with
    | nil => simp [pyL, alikeAll]
    | cons e k =>
      unfold Dm.mkOkL at h h'
      rw [Bool.and_eq_true] at h h'
      simp only [pyL, alikeAll]
      rw [mk_alike m d e h.1 h'.1, mk_alikeL ms l k h.2 h'.2]
      rfl
  | [], _ :: _, _, h, _ => by simp [Dm.mkOkL] at h
  | _ :: _, [], _, h, _ => by simp [Dm.mkOkL] at h
theorem mk_alikeA : ∀ (m : Dm.Mk) (l k : List Dm.D), Dm.mkOkA m l = true → Dm.mkOkA m k = true → alikeAll (pyL l) (pyL k) = true
  | _, [], k, _, _ => by simp [pyL, alikeAll]
  | m, d :: l, k, h, h' => by
    cases k with
    | nil => simp [pyL, alikeAll]
    | cons e k =>
      unfold Dm.mkOkA at h h'
      rw [Bool.and_eq_true] at h h'
      simp only [pyL, alikeAll]
      rw [mk_alike m d e h.1 h'.1, mk_alikeA m l k h.2 h'.2]
      rfl
end
theorem mk_eqv (m : Dm.Mk) (d e : Dm.D) (h : Dm.mkOk m d = true) (h' : Dm.mkOk m e = true) : PyData.eqv (py d) (py e) = Dm.eqv d e :=
  py_eqv (Dm.mkDep m) (Dm.mkDep m) d e (mk_plain _ m d (Nat.le_refl _) h) (mk_plain _ m e (Nat.le_refl _) h')
theorem lx_nil_cons (x : PyData) (xs : List PyData) : PyProof.Rows.lexLt itemOrd (keyToksAll []) (keyToksAll (x :: xs)) = true := by
  rw [toks_all_cons]
  show PyProof.Rows.lexLt itemOrd [Sum.inl 0] (Sum.inl 1 :: _) = true
  rfl
theorem lx_cons_nil (x : PyData) (xs : List PyData) : PyProof.Rows.lexLt itemOrd (keyToksAll (x :: xs)) (keyToksAll []) = false := by
  rw [toks_all_cons]
  show PyProof.Rows.lexLt itemOrd (Sum.inl 1 :: _) [Sum.inl 0] = false
  rfl
theorem lx_nil : PyProof.Rows.lexLt itemOrd (keyToksAll []) (keyToksAll []) = false := by
  show PyProof.Rows.lexLt itemOrd [Sum.inl 0] [Sum.inl 0] = false
  rfl
mutual
theorem mk_lt : ∀ (m : Dm.Mk) (d e : Dm.D), Dm.mkOk m d = true → Dm.mkOk m e = true → dataLt (py d) (py e) = Dm.ltv d e
  | .int, .int i, e, _, h => by
    cases e with
    | int j => unfold py; rw [dataLt_int]; unfold Dm.ltv; rfl
    | _ => simp [Dm.mkOk] at h
  | .tup ms, .tup l, e, h, h' => by
    cases e with
    | tup k =>
      unfold Dm.mkOk at h h'
      unfold py Dm.ltv
      rw [dataLt_tuple]
      exact mk_ltL ms l k h h'
    | _ => simp [Dm.mkOk] at h'
  | .tups m, .tup l, e, h, h' => by
    cases e with
    | tup k =>
      unfold Dm.mkOk at h h'
      unfold py Dm.ltv
      rw [dataLt_tuple]
      exact mk_ltA m l k h h'
    | _ => simp [Dm.mkOk] at h'
  | .lsts m, .lst l, e, h, h' => by
    cases e with
    | lst k =>
      unfold Dm.mkOk at h h'
      unfold py Dm.ltv
      rw [dataLt_list]
      exact mk_ltA m l k h h'
    | _ => simp [Dm.mkOk] at h'
  | .int, .non, _, h, _ | .int, .bl _, _, h, _ | .int, .str _, _, h, _ | .int, .byt _, _, h, _ | .int, .tup _, _, h, _ | .int, .lst _, _, h, _ | .int, .scr _, _, h, _ | .int, .set _, _, h, _ | .int, .ref _, _, h, _ | .int, .ty _, _, h, _ | .int, .exc _ _ _ _ _, _, h, _ | .int, .lam _, _, h, _ => by simp [Dm.mkOk] at h
  | .tup _, .non, _, h, _ | .tup _, .bl _, _, h, _ | .tup _, .str _, _, h, _ | .tup _, .byt _, _, h, _ | .tup _, .int _, _, h, _ | .tup _, .lst _, _, h, _ | .tup _, .scr _, _, h, _ | .tup _, .set _, _, h, _ | .tup _, .ref _, _, h, _ | .tup _, .ty _, _, h, _ | .tup _, .exc _ _ _ _ _, _, h, _ | .tup _, .lam _, _, h, _ => by simp [Dm.mkOk] at h
  | .tups _, .non, _, h, _ | .tups _, .bl _, _, h, _ | .tups _, .str _, _, h, _ | .tups _, .byt _, _, h, _ | .tups _, .int _, _, h, _ | .tups _, .lst _, _, h, _ | .tups _, .scr _, _, h, _ | .tups _, .set _, _, h, _ | .tups _, .ref _, _, h, _ | .tups _, .ty _, _, h, _ | .tups _, .exc _ _ _ _ _, _, h, _ | .tups _, .lam _, _, h, _ => by simp [Dm.mkOk] at h
  | .lsts _, .non, _, h, _ | .lsts _, .bl _, _, h, _ | .lsts _, .str _, _, h, _ | .lsts _, .byt _, _, h, _ | .lsts _, .int _, _, h, _ | .lsts _, .tup _, _, h, _ | .lsts _, .scr _, _, h, _ | .lsts _, .set _, _, h, _ | .lsts _, .ref _, _, h, _ | .lsts _, .ty _, _, h, _ | .lsts _, .exc _ _ _ _ _, _, h, _ | .lsts _, .lam _, _, h, _ => by simp [Dm.mkOk] at h
theorem mk_ltL : ∀ (ms : List Dm.Mk) (l k : List Dm.D), Dm.mkOkL ms l = true → Dm.mkOkL ms k = true → PyProof.Rows.lexLt itemOrd (keyToksAll (pyL l)) (keyToksAll (pyL k)) = Dm.ltvL l k
  | [], [], k, _, h' => by
    cases k with
    | nil => unfold Dm.ltvL pyL; exact lx_nil
    | cons _ _ => simp [Dm.mkOkL] at h'
  | m :: ms, d :: l, k, h, h' => by
    cases k with
    | nil => simp [Dm.mkOkL] at h'
    | cons e k =>
      unfold Dm.mkOkL at h h'
      rw [Bool.and_eq_true] at h h'
      have ha := mk_alike m d e h.1 h'.1
      have he := mk_eqv m d e h.1 h'.1
      simp only [pyL, Dm.ltvL]
      by_cases q : Dm.eqv d e = true
      · rw [if_pos q, dataLt_all_yes ha (he.trans q), mk_ltL ms l k h.2 h'.2]
      · rw [if_neg q, dataLt_all_no ha (he.trans (by simpa using q)), mk_lt m d e h.1 h'.1]
  | [], _ :: _, _, h, _ => by simp [Dm.mkOkL] at h
  | _ :: _, [], _, h, _ => by simp [Dm.mkOkL] at h
theorem mk_ltA : ∀ (m : Dm.Mk) (l k : List Dm.D), Dm.mkOkA m l = true → Dm.mkOkA m k = true → PyProof.Rows.lexLt itemOrd (keyToksAll (pyL l)) (keyToksAll (pyL k)) = Dm.ltvL l k
  | _, [], k, _, h' => by
    cases k with
    | nil => unfold Dm.ltvL pyL; exact lx_nil
    | cons _ _ => unfold Dm.ltvL pyL; exact lx_nil_cons _ _
  | m, d :: l, k, h, h' => by
    cases k with
    | nil => simp only [pyL, Dm.ltvL]; exact lx_cons_nil _ _
    | cons e k =>
      unfold Dm.mkOkA at h h'
      rw [Bool.and_eq_true] at h h'
      have ha := mk_alike m d e h.1 h'.1
      have he := mk_eqv m d e h.1 h'.1
      simp only [pyL, Dm.ltvL]
      by_cases q : Dm.eqv d e = true
      · rw [if_pos q, dataLt_all_yes ha (he.trans q), mk_ltA m l k h.2 h'.2]
      · rw [if_neg q, dataLt_all_no ha (he.trans (by simpa using q)), mk_lt m d e h.1 h'.1]
end
end Dr
end S_DSrt
section S_DSr2
set_option Elab.async false
set_option linter.all false
set_option maxRecDepth 100000
set_option maxHeartbeats 1000000
/-! DSr2: sorted, min, max, remove, index of data. -/
namespace Dr
open PySem PySem.Spec PyProof.Rows L2 PySem.W PySem.Calls
section
variable {prog : Program} {w : World} {A : Around} {E : Value → Shared → Prop} {s : Shared}
theorem collect_tup {l : Addr} {vs : List Value} {Q : List Value → Shared → Prop} (hl : s.heap.IsTuple l vs.toArray)
    (h : Q vs { s with heap := (s.heap.push (seqObj "list" #[] 0)).update s.heap.objs.size (Obj.mapSeq (· ++ vs.toArray)) }) (hsz : vs.length ≤ sizeLine) : wpAny (model prog w) A (collect (.ref l)) Q E s := by
  obtain ⟨o, ho, hc, n, hd⟩ := id hl
  unfold collect
  refine wpAny_bind (wpAny_runValue (codeAny_builtin entry_proto_collect' ?_))
  show wpAny _ _ (do again (.builtin "list.__iadd__" ⟨[← newList [], .ref l], []⟩)) _ _ s
  refine wpAny_bind (wpAny_newList (wpAny_pure ⟨Code.quiet_builtin _ (by decide +kernel), codeAny_builtin entry_list_iadd' ?_⟩))
  show wpAny _ _ (Builtin.List.listExtendWith (.ref s.heap.objs.size) (.ref l) (.ref s.heap.objs.size)) _ _ { s with heap := s.heap.push (seqObj "list" #[] 0) }
  unfold Builtin.List.listExtendWith
  have ho' : (s.heap.push (seqObj "list" #[] 0)).get? l = some o := Heap.get?_push_of_some _ ho
  refine wpAny_bind (wpAny_typeOf (T := "tuple") ⟨o, ho', hc⟩ ?_)
  have ht : (Value.type "tuple" == Value.type "tuple") = true := by rfl
  rw [if_pos (by rw [ht]; simp)]
  refine wpAny_bind (listItems_at ho' hd ?_)
  refine wpAny_bind (listItems_at (xs := #[]) (n := 0) (Heap.get?_push_size _ rfl) rfl ?_)
  rw [if_neg (by simp)]
  refine wpAny_bind (listUpdate_at (xs := #[]) (n := 0) (Heap.get?_push_size _ rfl) rfl ?_ (Nat.zero_le _) (by show (#[] ++ vs.toArray).size ≤ sizeLine + 1; simp only [Array.size_append, List.size_toArray, List.length_nil]; omega))
  refine wpAny_pure ?_
  show wpAny (model prog w) A (do
      let o ← load s.heap.objs.size
      match o.data with
      | .seq xs _ => pure xs.toList
      | _ => unsupported "internal:collect") Q E { s with heap := (s.heap.push (seqObj "list" #[] 0)).update s.heap.objs.size (Obj.mapSeq (· ++ vs.toArray)) }
  refine wpAny_bind (wpAny_load (get?_update_seq (Heap.get?_push_size _ rfl) _) ?_)
  show wpAny _ _ (pure ((#[] : Array Value) ++ vs.toArray).toList) Q E _
  rw [show ((#[] : Array Value) ++ vs.toArray).toList = vs by simp]
  exact wpAny_pure h
variable {κ : PyProof.Rows.KeyKind}
theorem sortedT_vals {l : Addr} {vs : List Value} {Q : Value → Shared → Prop} (hl : s.heap.IsTuple l vs.toArray) (S : SortsAt prog w A.in1.in1 { s with heap := sortingHeap (copyHeap s.heap vs) (s.heap.objs.size + 1) vs } κ vs) (hL : vs.length ≤ sizeLine)
    (h : Q (.ref (s.heap.objs.size + 1)) { s with heap := sortedAll s.heap vs (sortVals κ false vs vs).toArray }) : wpAny (model prog w) A (call (.builtin "sorted") [.ref l]) Q E s := by
  refine call_function_entry_kw kind_sorted plain_sorted entry_sorted (args_sorted1 _) ?_
  unfold Builtin.«sorted»
  refine wpAny_bind (m := checkCount "sorted" 1 1 _) (wpAny_pure ?_)
  refine wpAny_bind (collect_tup hl ?_ hL)
  refine wpAny_bind (wpAny_newList ?_ hL)
  have hsz : ((s.heap.push (seqObj "list" #[] 0)).update s.heap.objs.size (Obj.mapSeq (· ++ vs.toArray))).objs.size = s.heap.objs.size + 1 := by
    rw [Heap.size_update, size_push']
  show wpAny _ _ _ _ _ { s with heap := copyHeap s.heap vs }
  rw [hsz]
  refine wpAny_bind (wpAny_holding (wpAny_call_entry_kw slot_list_sort ⟨_, copyHeap_at s.heap vs, rfl⟩ entry_list_sort ?body (args_list_sort _)))
  case body =>
    show wpAny (model prog w) A.in1.in1 (Builtin.«list.sort» ⟨[.ref (s.heap.objs.size + 1)], []⟩) _ _ _
    refine wpAny_mono (list_sort_vals (s := { s with heap := copyHeap s.heap vs }) (P := fun f s' => f = .done (.ret .none) ∧ Q (.ref (s.heap.objs.size + 1)) s') (copyHeap_at s.heap vs) S hL ⟨rfl, h⟩) (fun f s' hf => ?_) fun _ _ e => e
    obtain ⟨rfl, hq⟩ := hf
    exact ⟨_, rfl, wpAny_pure ⟨_, rfl, hq⟩⟩
theorem sortedT_data {β : Type} {vs : List Value} {bs : List β} {enc : β → PyData} {R : Value → β → Prop} {l : Addr} {Q : Value → Shared → Prop} (hl : s.heap.IsTuple l vs.toArray) (e : EachIs R vs bs) (er : EachIs (fun v b => ∃ as, Reads s.heap v (enc b) as) vs bs) (hal : AllAlike (bs.map enc)) (hk : Sortable (bs.map enc)) (hL : bs.length ≤ sizeLine)
    (hu : ∀ b, b ∈ bs → A.units + 2 + (enc b).depth < cLine) (h : ∀ out, out.length = bs.length → EachIs R out (bs.mergeSort (dataLe false enc)) → Q (.ref (s.heap.objs.size + 1)) { s with heap := sortedAll s.heap vs (List.toArray out) }) :
    wpAny (model prog w) A (call (.builtin "sorted") [.ref l]) Q E s := by
  have er' : EachIs (fun v b => ∃ as, Reads (sortingHeap (copyHeap s.heap vs) (s.heap.objs.size + 1) vs) v (enc b) as) vs bs := er.mono fun _ _ ⟨as, r⟩ => ⟨as, PyProof.Rows.Reads.keeps (fun _ _ => sorting_copy_old) r⟩
  exact sortedT_vals hl (SortsAt.data (s := { s with heap := sortingHeap (copyHeap s.heap vs) (s.heap.objs.size + 1) vs }) (each_map (R := fun v d => ∃ as, Reads (sortingHeap (copyHeap s.heap vs) (s.heap.objs.size + 1) vs) v d as) enc er') hal hk (bound_map hu)) (by rw [e.length]; exact hL)
    (h _ (by rw [sortVals_length false rfl]; exact e.length) (sortVals_data false e er' hal))
end
section
variable {X : Cx} {cm : CM} {hidn : Hdn} {pins : List (Addr × Obj)} {σ : L2.St} {H : Hp} {s : Shared}
theorem each_of {g : Gd} {h : Dm.Hd} : ∀ {l : List Dm.D} {xs : List V} {us : List Value}, VRs g H h l xs → Vals xs us → EachIs (fun u d => ∃ v, RelV v u ∧ VR g H h d v) us l
  | [], _, _, x, r => by
    unfold VRs at x
    subst x
    cases r
    exact .nil
  | d :: l, _, _, x, r => by
    unfold VRs at x
    obtain ⟨v, t, rfl, a, b⟩ := x
    cases r with
    | cons ru rt => exact .cons ⟨v, ru, a⟩ (each_of b rt)
theorem of_each {g : Gd} {h : Dm.Hd} : ∀ {l : List Dm.D} {us : List Value}, EachIs (fun u d => ∃ v, RelV v u ∧ VR g H h d v) us l → ∃ xs, VRs g H h l xs ∧ Vals xs us
  | [], _, e => by
    cases e
    exact ⟨[], .nil, .nil⟩
  | d :: l, _, e => by
    cases e with
    | cons a b =>
      obtain ⟨v, ru, a⟩ := a
      obtain ⟨xs, x, r⟩ := of_each b
      exact ⟨v :: xs, .cons a x, .cons ru r⟩
theorem each_reads {h : Dm.Hd} (I : Inv X pins σ H s) {n : Nat} : ∀ {l : List Dm.D} {us : List Value}, (∀ d ∈ l, Dm.plain n d = true) → EachIs (fun u d => ∃ v, RelV v u ∧ VR (gOf X cm hidn) H h d v) us l → EachIs (fun u d => ∃ as, Reads s.heap u (py d) as) us l
  | _, _, _, .nil => .nil
  | d :: l, _, p, .cons ⟨v, ru, a⟩ t => .cons (Dp.reads I _ v _ (py_dp n d v (p d List.mem_cons_self) a) ru) (each_reads I (fun e m => p e (List.mem_cons_of_mem _ m)) t)
theorem dle_srt {m : Dm.Mk} {l : List Dm.D} (ok : ∀ d ∈ l, Dm.mkOk m d = true) : Dm.srt l (l.mergeSort (dataLe false py)) := by
  have T := sortLe_total (listOrd itemOrd) false fun b : Dm.D => keyToks (py b)
  refine ⟨List.mergeSort_perm _ _, ?_⟩
  have h := List.pairwise_mergeSort (le := dataLe false py) (fun a b c h1 h2 => T.trans a b c h1 h2) (fun a b => by
    rcases T.total a b with q | q
    · rw [show dataLe false py a b = true from q]; rfl
    · rw [show dataLe false py b a = true from q]; simp) l
  refine h.imp_of_mem fun {a b} ha hb q => ?_
  have ha' := ok a ((List.mergeSort_perm _ _).mem_iff.mp ha)
  have hb' := ok b ((List.mergeSort_perm _ _).mem_iff.mp hb)
  rw [← mk_lt m b a hb' ha']
  rw [dataLe_eq] at q
  simpa using q
theorem mk_sortable {m : Dm.Mk} {l : List Dm.D} (hm : ∀ ms, m = .tups ms → ∀ d ∈ l, d ≠ .tup []) (hm2 : m ≠ .tup []) (ok : ∀ d ∈ l, Dm.mkOk m d = true) : Sortable (l.map py) := by
  cases m with
  | int =>
    refine .inr fun d hd => ?_
    obtain ⟨e, he, rfl⟩ := List.mem_map.mp hd
    have := ok e he
    cases e <;> simp [Dm.mkOk] at this
    exact ⟨by simp [py], by simp [py]⟩
  | lsts m =>
    refine .inr fun d hd => ?_
    obtain ⟨e, he, rfl⟩ := List.mem_map.mp hd
    have := ok e he
    cases e <;> simp [Dm.mkOk] at this
    exact ⟨by simp [py], by simp [py]⟩
  | tup ms =>
    refine .inl fun d hd => ?_
    obtain ⟨e, he, rfl⟩ := List.mem_map.mp hd
    have := ok e he
    cases e <;> simp [Dm.mkOk] at this
    rename_i k
    cases ms with
    | nil => exact absurd rfl hm2
    | cons a ms =>
      cases k with
      | nil => simp [Dm.mkOkL] at this
      | cons x k => exact ⟨py x, pyL k, by simp [py, pyL]⟩
  | tups m =>
    refine .inl fun d hd => ?_
    obtain ⟨e, he, rfl⟩ := List.mem_map.mp hd
    have := ok e he
    have ne := hm m rfl e he
    cases e <;> simp [Dm.mkOk] at this
    rename_i k
    cases k with
    | nil => exact absurd rfl ne
    | cons x k => exact ⟨py x, pyL k, by simp [py, pyL]⟩
theorem cb_sorted (hu : X.A.units + 30 < cLine) : CallR X (.builtin "sorted") (LB (gOf X cm hidn) Dm.bSorted) := by
  intro pins s σ H vs us Q I rv ⟨ds, h, P, xs, hr, q, k⟩
  match ds, q, xs with
  | [d], ⟨l, m, e, hm, hm1, hm2, ok, q⟩, xs =>
    obtain ⟨v, rfl, xv⟩ := vs1 xs
    have hp : ∀ d ∈ l, Dm.plain 20 d = true := fun d hd => mk_plain 20 m d hm (ok d hd)
    have hal : AllAlike (l.map py) := fun a ha b hb => by
      obtain ⟨d, hd, rfl⟩ := List.mem_map.mp ha
      obtain ⟨e, he, rfl⟩ := List.mem_map.mp hb
      exact mk_alike m d e (ok d hd) (ok e he)
    have hk : Sortable (l.map py) := mk_sortable hm1 hm2 ok
    have hdep : ∀ b, b ∈ l → X.A.units + 2 + (py b).depth < cLine := fun b hb => by
      have := (py_shaped 20 b (hp b hb)).2
      omega
    have fin : ∀ (its : List Value) (xu : List V) (z : l.length ≤ sizeLine), VRs (gOf X cm hidn) H h l xu → ∀ out : List Value, out.length = l.length → EachIs (fun u d => ∃ v, RelV v u ∧ VR (gOf X cm hidn) H h d v) out (l.mergeSort (dataLe false py)) →
        EP X pins σ Q (.ref (s.heap.objs.size + 1)) { s with heap := sortedAll s.heap its (List.toArray out) } := fun its xu z hx out ho eo => by
      obtain ⟨xo, x1, x2⟩ := of_each eo
      have hl2 : xo.length = l.length := by rw [x1.len, (List.mergeSort_perm _ _).length_eq]
      obtain ⟨c, hc⟩ := sortedAll_at s.heap its (List.toArray out)
      have nn : H (s.heap.objs.size + 1) = none := I.hok.fresh (Nat.le_succ _)
      refine ⟨.ref (s.heap.objs.size + 1), upd H (s.heap.objs.size + 1) (.lst xo), I.laid (t' := s.toks) (fun b o e => sortedAll_old e) (Nat.le_succ _) ⟨by rw [hl2]; exact z, out, c, x2, hc⟩, rfl, ?_⟩
      exact k.lst hr (q _ (dle_srt ok)) x1 (by rw [(List.mergeSort_perm _ _).length_eq]; exact z) nn
    by_cases nt : ∃ m, d = .tup m
    · obtain ⟨n, rfl⟩ := nt
      have em : n = l := by simpa [Dm.sq] using e
      subst em
      obtain ⟨a, xu, rfl, ha, z, xa⟩ := vT xv
      obtain ⟨its, r', pl, _⟩ := I.tuple (T_of (K := X.K) ha)
      rw [Vals.ref1 rv]
      have ee := each_of xa r'
      exact sortedT_data pl ee (each_reads I hp ee) hal hk z hdep fun out ho eo => fin its xu z xa out ho eo
    · obtain ⟨a, xu, rfl, hs, z, xa⟩ := sq_nt hr xv e fun m z => nt ⟨m, z⟩
      obtain ⟨its, r', pl, _⟩ := I.list hs
      rw [Vals.ref1 rv]
      have ee := each_of xa r'
      exact sorted_data pl.isList ee (each_reads I hp ee) hal hk z hdep fun out ho eo => fin its xu z xa out ho eo
end
end Dr
end S_DSr2
section S_DSr3
set_option Elab.async false
set_option linter.all false
set_option maxRecDepth 100000
set_option maxHeartbeats 1000000
/-! DSr3: min, max, remove, index of data. -/
namespace Dr
open PySem PySem.Spec PyProof.Rows L2 PySem.W PySem.Calls
theorem dlt_irr (a : PyData) : dataLt a a = false := (listOrd itemOrd).irrefl (keyToks a)
theorem dlt_tr {a b c : PyData} (x : dataLt a b = true) (y : dataLt b c = true) : dataLt a c = true := (listOrd itemOrd).trans (keyToks a) (keyToks b) (keyToks c) x y
theorem dlt_neg {a c : PyData} (b : PyData) (x : dataLt a c = true) : dataLt a b = true ∨ dataLt b c = true := (listOrd itemOrd).negTrans (keyToks a) (keyToks b) (keyToks c) x
theorem minD_le : ∀ (xs : List PyData) (x y : PyData), y ∈ x :: xs → dataLt y (minD x xs) = false
  | [], x, y, h => by
    rw [List.mem_singleton.mp h]
    exact dlt_irr x
  | z :: zs, x, y, h => by
    have ih := minD_le zs (if dataLt z x then z else x)
    show dataLt y (minD (if dataLt z x then z else x) zs) = false
    generalize hr : minD (if dataLt z x then z else x) zs = r at ih ⊢
    have hxz : dataLt x r = false ∧ dataLt z r = false := by
      by_cases c : dataLt z x = true
      · rw [if_pos c] at ih
        have h1 := ih z List.mem_cons_self
        refine ⟨?_, h1⟩
        cases q : dataLt x r with
        | false => rfl
        | true => rw [dlt_tr c q] at h1; cases h1
      · rw [if_neg c] at ih
        have h1 := ih x List.mem_cons_self
        refine ⟨h1, ?_⟩
        cases q : dataLt z r with
        | false => rfl
        | true =>
          rcases dlt_neg x q with e | e
          · exact absurd e c
          · rw [e] at h1; cases h1
    rcases List.mem_cons.mp h with rfl | h
    · exact hxz.1
    · rcases List.mem_cons.mp h with rfl | h
      · exact hxz.2
      · exact ih y (List.mem_cons_of_mem _ h)
theorem maxD_ge : ∀ (xs : List PyData) (x y : PyData), y ∈ x :: xs → dataLt (maxD x xs) y = false
  | [], x, y, h => by
    rw [List.mem_singleton.mp h]
    exact dlt_irr x
  | z :: zs, x, y, h => by
    have ih := maxD_ge zs (if dataLt x z then z else x)
    show dataLt (maxD (if dataLt x z then z else x) zs) y = false
    generalize hr : maxD (if dataLt x z then z else x) zs = r at ih ⊢
    have hxz : dataLt r x = false ∧ dataLt r z = false := by
      by_cases c : dataLt x z = true
      · rw [if_pos c] at ih
        have h1 := ih z List.mem_cons_self
        refine ⟨?_, h1⟩
        cases q : dataLt r x with
        | false => rfl
        | true => rw [dlt_tr q c] at h1; cases h1
      · rw [if_neg c] at ih
        have h1 := ih x List.mem_cons_self
        refine ⟨h1, ?_⟩
        cases q : dataLt r z with
        | false => rfl
        | true =>
          rcases dlt_neg x q with e | e
          · rw [e] at h1; cases h1
          · exact absurd e c
    rcases List.mem_cons.mp h with rfl | h
    · exact hxz.1
    · rcases List.mem_cons.mp h with rfl | h
      · exact hxz.2
      · exact ih y (List.mem_cons_of_mem _ h)
theorem pyL_map : ∀ l : List Dm.D, pyL l = l.map py
  | [] => rfl
  | d :: l => by rw [pyL, pyL_map l]; rfl
theorem mk_ne {m : Dm.Mk} {d : Dm.D} (h : Dm.mkOk m d = true) : py d ≠ .none := by
  cases m <;> cases d <;> first | (simp [Dm.mkOk] at h; done) | (simp [py])
section
variable {X : Cx} {cm : CM} {hidn : Hdn} {pins : List (Addr × Obj)} {σ : L2.St} {H : Hp} {s : Shared}
theorem mk_allAlike {m : Dm.Mk} {l : List Dm.D} (ok : ∀ d ∈ l, Dm.mkOk m d = true) : AlikeAll (pyL l) := by
  rw [pyL_map]
  refine ⟨fun a ha b hb => ?_, fun a ha => ?_⟩
  · obtain ⟨d, hd, rfl⟩ := List.mem_map.mp ha
    obtain ⟨e, he, rfl⟩ := List.mem_map.mp hb
    exact mk_alike m d e (ok d hd) (ok e he)
  · obtain ⟨d, hd, rfl⟩ := List.mem_map.mp ha
    exact mk_ne (ok d hd)
theorem plainL_of {n : Nat} : ∀ {l : List Dm.D}, (∀ d ∈ l, Dm.plain n d = true) → Dm.plainL n l = true
  | [], _ => by unfold Dm.plainL; rfl
  | d :: l, h => by
    unfold Dm.plainL
    rw [h d List.mem_cons_self, plainL_of fun e m => h e (List.mem_cons_of_mem _ m)]
    rfl
/-- the item found: it is one of the list, it reads as z -/
theorem pick_of {h : Dm.Hd} {l : List Dm.D} {xs : List V} {us : List Value} {i : Nat} {v : Value} {z : PyData} {bs : List Addr} {h' : Heap} {m : Dm.Mk} (I : Inv X pins σ H s) (xa : VRs (gOf X cm hidn) H h l xs) (r : Vals xs us) (ok : ∀ d ∈ l, Dm.mkOk m d = true) (hi : us[i]? = some v)
    (hz : z ∈ pyL l) (rz : Reads h' v z bs) (kp : ∀ b o, s.heap.get? b = some o → h'.get? b = some o) : ∃ d x, d ∈ l ∧ RelV x v ∧ VR (gOf X cm hidn) H h d x ∧ py d = z := by
  have hl := xa.len
  have hil : i < us.length := (List.getElem?_eq_some_iff.mp hi).1
  have hrl := r.length
  obtain ⟨x, hx, rx⟩ : ∃ x, xs[i]? = some x ∧ RelV x v := by
    have hix : i < xs.length := by omega
    refine ⟨xs[i], List.getElem?_eq_getElem hix, ?_⟩
    obtain ⟨y, e1, e2⟩ := r.get (List.getElem?_eq_getElem hix)
    rw [hi] at e1
    cases e1
    exact e2
  obtain ⟨d, hd, xd⟩ := xa.get' hx
  have hm : d ∈ l := List.mem_of_getElem? hd
  obtain ⟨as, rd⟩ := Dp.reads I _ x v (py_dp _ d x (mk_plain _ m d (Nat.le_refl _) (ok d hm)) xd) rx
  have rd' := PyProof.Rows.Reads.keeps kp rd
  refine ⟨d, x, hm, rx, xd, ?_⟩
  rw [pyL_map] at hz
  obtain ⟨e, he, rfl⟩ := List.mem_map.mp hz
  exact alike_unique _ _ _ _ _ (mk_alike m d e (ok d hm) (ok e he)) rd' rz
theorem minD_mem : ∀ (xs : List PyData) (x : PyData), minD x xs ∈ x :: xs
  | [], x => List.mem_singleton.mpr rfl
  | z :: zs, x => by
    have ih := minD_mem zs (if dataLt z x then z else x)
    show minD (if dataLt z x then z else x) zs ∈ _
    rcases List.mem_cons.mp ih with e | e
    · rw [e]
      by_cases c : dataLt z x = true
      · rw [if_pos c]; simp
      · rw [if_neg c]; simp
    · exact List.mem_cons_of_mem _ (List.mem_cons_of_mem _ e)
theorem maxD_mem : ∀ (xs : List PyData) (x : PyData), maxD x xs ∈ x :: xs
  | [], x => List.mem_singleton.mpr rfl
  | z :: zs, x => by
    have ih := maxD_mem zs (if dataLt x z then z else x)
    show maxD (if dataLt x z then z else x) zs ∈ _
    rcases List.mem_cons.mp ih with e | e
    · rw [e]
      by_cases c : dataLt x z = true
      · rw [if_pos c]; simp
      · rw [if_neg c]; simp
    · exact List.mem_cons_of_mem _ (List.mem_cons_of_mem _ e)
theorem cb_min1 (hc : X.calm = true) (hu : X.A.units + 30 < cLine) : CallR X (.builtin "min") (LB (gOf X cm hidn) Dm.bMin1) := by
  intro pins s σ H vs us Q I rv ⟨ds, h, P, xs, hr, q, k⟩
  match ds, q, xs with
  | [d], ⟨l, m, e, ne, hm, ok, q⟩, xs =>
    obtain ⟨v, rfl, xv⟩ := vs1 xs
    obtain ⟨a, xu, rfl, ha, z, xa⟩ := sqL_at hr xv e
    obtain ⟨its, r', pl, _⟩ := I.list (L_of (K := X.K) ha)
    rw [Vals.ref1 rv]
    have hp : Dm.plainL 20 l = true := plainL_of fun d hd => mk_plain 20 m d hm (ok d hd)
    obtain ⟨as, rs⟩ := Dp.readsAll I _ xu its (py_dpL 20 l xu hp xa) r'
    have hdep := (py_shapedL 20 l hp).2
    have hal := mk_allAlike ok
    cases l with
    | nil => exact absurd rfl ne
    | cons d0 l0 =>
      have rs' : ReadsAll s.heap its.toArray.toList (py d0 :: pyL l0) as := rs
      refine min_list_data (I.ok.hd hc) pl.isList rs' hal (by show X.A.units + 1 + PyData.depthAll (pyL (d0 :: l0)) < _; omega) fun i v h' tk bs hi rz kp => ?_
      obtain ⟨d, x, hd, rx, xd, ed⟩ := pick_of I xa r' ok (by simpa using hi) (minD_mem _ _) rz kp
      refine ⟨x, H, I.kept kp, rx, k.here hr (q d hd fun y hy => ?_) xd⟩
      rw [← mk_lt m y d (ok y hy) (ok d hd), ed]
      exact minD_le (pyL l0) (py d0) (py y) (by show py y ∈ pyL (d0 :: l0); rw [pyL_map]; exact List.mem_map.mpr ⟨y, hy, rfl⟩)
theorem cb_max1 (hc : X.calm = true) (hu : X.A.units + 30 < cLine) : CallR X (.builtin "max") (LB (gOf X cm hidn) Dm.bMax1) := by
  intro pins s σ H vs us Q I rv ⟨ds, h, P, xs, hr, q, k⟩
  match ds, q, xs with
  | [d], ⟨l, m, e, ne, hm, ok, q⟩, xs =>
    obtain ⟨v, rfl, xv⟩ := vs1 xs
    obtain ⟨a, xu, rfl, ha, z, xa⟩ := sqL_at hr xv e
    obtain ⟨its, r', pl, _⟩ := I.list (L_of (K := X.K) ha)
    rw [Vals.ref1 rv]
    have hp : Dm.plainL 20 l = true := plainL_of fun d hd => mk_plain 20 m d hm (ok d hd)
    obtain ⟨as, rs⟩ := Dp.readsAll I _ xu its (py_dpL 20 l xu hp xa) r'
    have hdep := (py_shapedL 20 l hp).2
    have hal := mk_allAlike ok
    cases l with
    | nil => exact absurd rfl ne
    | cons d0 l0 =>
      have rs' : ReadsAll s.heap its.toArray.toList (py d0 :: pyL l0) as := rs
      refine max_list_data (I.ok.hd hc) pl.isList rs' hal (by show X.A.units + 1 + PyData.depthAll (pyL (d0 :: l0)) < _; omega) fun i v h' tk bs hi rz kp => ?_
      obtain ⟨d, x, hd, rx, xd, ed⟩ := pick_of I xa r' ok (by simpa using hi) (maxD_mem _ _) rz kp
      refine ⟨x, H, I.kept kp, rx, k.here hr (q d hd fun y hy => ?_) xd⟩
      rw [← mk_lt m d y (ok d hd) (ok y hy), ed]
      exact maxD_ge (pyL l0) (py d0) (py y) (by show py y ∈ pyL (d0 :: l0); rw [pyL_map]; exact List.mem_map.mpr ⟨y, hy, rfl⟩)
end
end Dr
end S_DSr3
section S_DDc
set_option Elab.async false
set_option linter.all false
set_option maxRecDepth 100000
set_option maxHeartbeats 1000000
/-! DDc: dict comprehensions, keys of one kind (ints, texts; or tuples of these). -/
namespace Dr
open PySem PySem.Spec PyProof.Rows L2
/-- a dict's new entry, by the interpreter's own store -/
theorem dictSet_put {X : Cx} {pins : List (Addr × Obj)} {σ : L2.St} {H H' : Hp} {s : Shared} {E : Value → Shared → Prop} {D : Addr} {y v : V} {u r : Value} {Q : Unit → Shared → Prop} (hu : X.A.units + 1 < cLine) (I : Inv X pins σ H s) (g : DPut H D y v H')
    (ry : RelV y u) (rv : RelV v r) (h : ∀ s', Inv X pins σ H' s' → Q () s') : wpAny (model X.prog X.w) X.A (dictSet D u r) Q E s := by
  rcases g with ⟨kvs, k, e, ey, l, eH⟩ | ⟨kvs, k, b, e, ey, eb, l, eH⟩
  · subst ey eH
    exact d_dictSet I e l ry rv h
  · subst ey eH
    cases (show u = Value.ref b from ry)
    obtain ⟨z, hd, xs, rel, dd⟩ := dt_of I.hok e
    have hz : xs.length ≤ sizeLine := by rw [← Paired.length rel]; exact z
    have hl : (putK kvs k v).length ≤ sizeLine := by have := length_putK kvs k v; omega
    refine wpAny_dictSet_heap (hsz := hz) (show X.A.units < cLine by omega) (key_of I.hok eb) dd fun h' dd' hs => h _ ?_
    obtain ⟨q, es, ep, hq, h2, h3, h4, _, h5⟩ := dd'
    refine d_write I (by rw [e]; exact True.intro) hs ⟨q, hq⟩ ⟨hl, hd, _, (rel.put k eb rv).keeps fun c ys ec => ?_, q, es, ep, hq, h2, h3, h4, h5⟩
    rw [upd_ne (ne_of ec e (fun z => nomatch z))]
    exact ec
/-- a new dict's contents -/
def dO : Bool → HO
  | false => .dK []
  | true => .dT []
def tDcP (b : Bool) (wi : L2.TI) (g : L2.TG) (tt : L2.TT) (tk tv : L2.TE) (vs : List Nat) : L2.TE := fun σ H Q => wi σ H fun J H1 => ∀ D, H1 D = none → ∃ W : Nat → Nat → Hp → Prop, (∃ m, W 0 m (upd H1 D (dO b))) ∧ ∀ i m H, W i m H →
  (J.stop i H ∧ Q (.ref D) H) ∨ (J.go i H ∧ ∃ Nx : Hp → Prop, (∀ H', Nx H' → ∃ m', m' < m ∧ W (i + 1) m' H') ∧ ∀ x H', J.yld i H x H' → g x (L2.wipe σ vs) H' fun σ2 H2 => L2.wipe σ2 vs = L2.wipe σ vs ∧ tt σ2 H2 fun b H3 =>
    if b = true then tk σ2 H3 fun y H4 => tv σ2 H4 fun z H5 => ∃ H6, DPut H5 D y z H6 ∧ Nx H6 else Nx H3)
section
variable {X : Cx}
theorem pe_dcP (b : Bool) {kx vx tg iter : Expr} {ifs : List Expr} {scope : Scope} {own : List (Str × Nat)} {pos : Pos} {wi : L2.TI} {g : L2.TG} {tt : L2.TT} {tk tv : L2.TE} (hu : X.A.units + 1 < cLine) (hc : X.calm = true) (hN : X.N.Nodup) (hi : PI X tg iter wi) (ok : BlkOk X.N X.env.scope scope own)
    (hg : ∀ (s : Shared) (H : Hp) (C : Addr) (cl : List (Str × Addr)) (fp : List Addr), PG (X.blk s H scope (compEnvC scope cl C X.env) fp) tg g) (ht : ∀ (s : Shared) (H : Hp) (C : Addr) (cl : List (Str × Addr)) (fp : List Addr), PTs (X.blk s H scope (compEnvC scope cl C X.env) fp) ifs tt)
    (hk : ∀ (s : Shared) (H : Hp) (C : Addr) (cl : List (Str × Addr)) (fp : List Addr), PE (X.blk s H scope (compEnvC scope cl C X.env) fp) kx tk)
    (he : ∀ (s : Shared) (H : Hp) (C : Addr) (cl : List (Str × Addr)) (fp : List Addr), PE (X.blk s H scope (compEnvC scope cl C X.env) fp) vx tv) (hs : ∀ x, foldedSetIterable iter X.env x = pure x := by intro _; rfl) :
    PE X (.DictComp kx vx [⟨tg, iter, ifs, 0⟩] scope pos) (tDcP b wi g tt tk tv (own.map (·.2))) := by
  refine ⟨fun pins s σ H Q I h => ?_⟩
  rw [arm_eval_DictComp]
  have hfree : ∀ y ∈ scope.names, y.2 = .free → ∃ c, X.env.cells.lookup y.1 = some c := fun y hy e => by
    rcases ok.free y hy e with k | k
    · exact I.ok.has _ (.inl k)
    · exact I.ok.has _ (.inr k)
  refine wpAny_comprehension_free rfl hs (closure_ok hfree) ok.kind (fun y hy e => by rw [ok.uniq y hy, e])
    (thn (hi.run pins s σ H _ I h) fun xv s1 hx => thn hx fun itv s2 h2 => ?_)
  obtain ⟨it, fp, tn, J, H2, e, I2, T, st2, f2, q⟩ := h2
  subst e
  refine wpAny_newObj_type (newEnv_comp ?_)
  generalize hD : s2.heap.objs.size = D
  have hDn : H2 D = none := I2.hok.fresh (Nat.le_of_eq hD)
  obtain ⟨W, ⟨m0, w0⟩, turn⟩ := q D hDn
  generalize hs3 : ({ s2 with heap := s2.heap.push { cls := .type "dict", data := .dict #[] } } : Shared) = s3
  have I3 : Inv X pins σ (upd H2 D (dO b)) s3 := by
    rw [← hs3]
    refine I2.laid (t' := s2.toks) (fun b o e => Heap.get?_push_of_some _ e) (Nat.le_of_eq hD) ?_
    rw [← hD]
    cases b with
    | false => exact dk_empty s2.heap I2.big
    | true => exact dt_empty s2.heap I2.big
  have h3 : s3.heap = s2.heap.push { cls := .type "dict", data := .dict #[] } := by rw [← hs3]
  have sz : ∀ b ∈ fp, b < s2.heap.objs.size := fun b hb => by
    obtain ⟨o, e, _⟩ := T.obj _ _ st2 b hb
    exact Heap.lt_size e
  generalize hH3 : upd H2 D (dO b) = H3 at I3 w0
  have f3 : ∀ b ∈ fp, FpOk X pins H3 b ∧ b < s3.heap.objs.size := fun b hb => by
    have hlt := sz b hb
    refine ⟨⟨?_, (f2 b hb).2⟩, by rw [h3, Heap.size_push]; exact Nat.lt_succ_of_lt hlt⟩
    rw [← hH3, upd_ne (by rw [← hD]; exact Nat.ne_of_lt hlt)]
    exact (f2 b hb).1
  have st3 : tn 0 s3.heap := T.keep _ _ _ st2 fun b _ o e => by rw [h3]; exact Heap.get?_push_of_some _ e
  have I4 := block_start I3 ok hN f3
  have pg := hg s3 H3 s3.heap.objs.size (cellsFrom (s3.heap.objs.size + 1) scope.names (cloFrom X.env.cells scope.names [])) fp
  have pt := ht s3 H3 s3.heap.objs.size (cellsFrom (s3.heap.objs.size + 1) scope.names (cloFrom X.env.cells scope.names [])) fp
  have pk := hk s3 H3 s3.heap.objs.size (cellsFrom (s3.heap.objs.size + 1) scope.names (cloFrom X.env.cells scope.names [])) fp
  have pe := he s3 H3 s3.heap.objs.size (cellsFrom (s3.heap.objs.size + 1) scope.names (cloFrom X.env.cells scope.names [])) fp
  show codeAny _ _ (.compStart (.DictComp kx vx [⟨tg, iter, ifs, 0⟩] scope pos) 0 (.ref it) (.ref D) (compEnvC scope (cellsFrom (s3.heap.objs.size + 1) scope.names (cloFrom X.env.cells scope.names [])) s3.heap.objs.size X.env)) (compPost (model X.prog X.w) X.A X.xe none _ (.ref D) s3.heap.objs.size) { s3 with heap := pushCells (s3.heap.push { cls := .type "dict", data := .dict #[] }) scope.names }
  have nfp : ∀ b ∈ fp, H3 b = none := fun b hb => (f3 b hb).1.1
  generalize hce : compEnvC scope (cellsFrom (s3.heap.objs.size + 1) scope.names (cloFrom X.env.cells scope.names [])) s3.heap.objs.size X.env = ce at I4 pg pt pk pe ⊢
  have cL : ce.locals = s3.heap.objs.size := by subst hce; rfl
  generalize hs4 : ({ s3 with heap := pushCells (s3.heap.push { cls := .type "dict", data := .dict #[] }) scope.names } : Shared) = s4 at I4 ⊢
  have st4 : tn 0 s4.heap := T.keep _ _ _ st3 fun b _ o e => by rw [← hs4]; exact pushCells_keeps _ _ _ _ (Heap.get?_push_of_some _ e)
  have stat : ∀ {σ' : L2.St} {H' : Hp} {s' : Shared}, Inv (X.blk s3 H3 scope ce fp) [] σ' H' s' → (∀ b ∈ fp, H' b = none) → ∀ b ∈ fp, FpOk (X.blk s3 H3 scope ce fp) [] H' b := fun {σ' H' s'} I' hn b hb =>
    ⟨hn b hb, (I'.ok.exf b hb).1, I'.ok.exfs b hb, .inl hb, fun x c e => (I'.ok.exf b hb).2 x c e, fun p hp => absurd (show p ∈ ([] : List (Addr × Obj)) ++ [] from hp) (by simp)⟩
  have loop : codeAny (model X.prog X.w) X.A (.compLoop (.DictComp kx vx [⟨tg, iter, ifs, 0⟩] scope pos) 0 (.ref it) (.ref D) ce) (compPost (model X.prog X.w) X.A X.xe none (EP X pins σ Q) (.ref D) s3.heap.objs.size) s4 := by
    refine compLoop_anyD (fun n s' => ∃ i H', Inv (X.blk s3 H3 scope ce fp) [] (L2.wipe σ (own.map (·.2))) H' s' ∧ tn i s'.heap ∧ (∀ b ∈ fp, H' b = none) ∧ W i n H') ?_ m0 ⟨0, H3, I4, st4, nfp, w0⟩
    rintro n s5 ⟨i, H5, I5, st5, n5, w5⟩
    rcases turn i n H5 w5 with ⟨stop, qq⟩ | ⟨go, Nx, hNx, step⟩
    · refine thnF (T.done (X.blk s3 H3 scope ce fp) rfl rfl rfl hc i [] s5 _ H5 (fun _ _ => False) I5 (stat I5 n5) st5 stop) fun r s6 ⟨hr, I6⟩ => ?_
      subst hr
      have I7 : Inv X pins σ H5 s6 := I3.call' (ch := fp) I6.os I6.base I6.hok I6.bare fun b hb => ⟨(f3 b hb).1.2.2.2.1, (f3 b hb).1.2.1, (f3 b hb).1.2.2.2.2.1, (f3 b hb).1.2.2.2.2.2⟩
      have nC : H5 s3.heap.objs.size = none := by
        have z : H5 ce.locals = none := I6.free
        rw [cL] at z
        exact z
      obtain ⟨m, hn, _⟩ := I6.loc
      have hn : s6.heap.Ns ce.locals m := hn
      rw [cL] at hn
      obtain ⟨f0, f1, f2, f3, f4, f5⟩ := I3.fpOk (Nat.le_refl _) nC
      exact ⟨m, hn, fun h'' sb => ⟨.ref D, H5, I7.turned (t' := s6.toks) (fun b o hb e => (sb.2 b hb).trans e) f0 f1 f3 f4 f5, rfl, qq⟩⟩
    · refine thnF (T.item (X.blk s3 H3 scope ce fp) rfl rfl rfl hc i [] s5 _ H5 (fun _ _ => False) I5 (stat I5 n5) st5 go) fun r s6 ⟨u, hr, h6⟩ => ?_
      subst hr
      refine thnF h6 fun _ s7 ⟨x, H7, I7, r7, y7, st7, n7⟩ => ?_
      have I7' := I7.pinned (stat I7 n7) (T.obj _ _ st7)
      refine thnF (pg.run _ s7 _ H7 x u _ I7' r7 (step x H7 y7)) fun _ s8 ⟨σ8, H8, I8, hw8, q8⟩ => ?_
      refine thnF (pt.run _ s8 σ8 H8 _ I8 q8) fun c s9 ⟨H9, I9, q9⟩ => ?_
      have fin : ∀ {s' : Shared} {H' : Hp}, Inv (X.blk s3 H3 scope ce fp) ([] ++ pinsAt fp s7.heap) σ8 H' s' → Nx H' → ∃ m, m < n ∧ ∃ i H', Inv (X.blk s3 H3 scope ce fp) [] (L2.wipe σ (own.map (·.2))) H' s' ∧ tn i s'.heap ∧ (∀ b ∈ fp, H' b = none) ∧ W i m H' := fun {s' H'} I' nx => by
        obtain ⟨m', hm, w'⟩ := hNx H' nx
        have pin' : ∀ b ∈ fp, ∀ o, s7.heap.get? b = some o → s'.heap.get? b = some o ∧ H' b = none := fun b hb o e =>
          let z := I'.pin (b, o) (List.mem_append_right _ (List.mem_append_right _ (mem_pinsAt hb e)))
          ⟨z.1, z.2.1⟩
        have hl : (L2.wipe σ (own.map (·.2))).length = σ8.length := by rw [← hw8, wipe_length]
        refine ⟨m', hm, i + 1, H', (I'.unpinned (pins := [])).weak hl (fun j v e => ?_), T.keep _ _ _ st7 fun b hb o e => (pin' b hb o e).1, fun b hb => ?_, w'⟩
        · rw [← hw8] at e
          exact (wipe_some e).1
        · obtain ⟨o, e, _⟩ := T.obj _ _ st7 b hb
          exact (pin' b hb o e).2
      cases c with
      | false =>
        simp only [Bool.false_eq_true, if_false] at q9 ⊢
        exact fin I9 q9
      | true =>
        simp only [if_true] at q9 ⊢
        refine thnF (pk.run _ s9 σ8 H9 _ I9 q9) fun z s10 ⟨yk, H10, I10, r10, q10⟩ => ?_
        refine thnF (pe.run _ s10 σ8 H10 _ I10 q10) fun z2 s11 ⟨yv, H11, I11, r11, H12, dp, nx⟩ => ?_
        exact dictSet_put (X := X.blk s3 H3 scope ce fp) hu I11 dp r10 r11 fun s12 I12 => fin I12 nx
  exact codeAny_compStart_dict loop (T.self X.A 0 _ _ _ st4 loop)
end
end Dr
end S_DDc
section S_DDc2
set_option Elab.async false
set_option linter.all false
set_option maxRecDepth 100000
set_option maxHeartbeats 1000000
/-! DDc2: dict comprehensions, as transformers. -/
namespace Dr
open PySem PySem.Spec PyProof.Rows L2
theorem wipe_idem (σ : L2.St) (vs : List Nat) : L2.wipe (L2.wipe σ vs) vs = L2.wipe σ vs := by
  have idem : ∀ (ws : List Nat), (∀ w ∈ ws, w ∈ vs) → L2.wipe (L2.wipe σ vs) ws = L2.wipe σ vs := by
    intro ws
    induction ws with
    | nil => intro _; rfl
    | cons w ws ih =>
      intro hw
      have e2 : L2.wipe (L2.wipe σ vs) (w :: ws) = (L2.wipe (L2.wipe σ vs) ws).set w none := rfl
      rw [e2, ih fun z hz => hw z (List.mem_cons_of_mem _ hz)]
      apply List.ext_getElem?
      intro j
      by_cases hj : w = j
      · subst hj
        by_cases hlen : w < (L2.wipe σ vs).length
        · rw [List.getElem?_set_self hlen]
          cases q : (L2.wipe σ vs)[w]? with
          | none => rw [List.getElem?_eq_none_iff] at q; omega
          | some o =>
            cases o with
            | none => rfl
            | some v => exact absurd (hw w List.mem_cons_self) (wipe_some q).2
        · rw [List.getElem?_eq_none (by rw [List.length_set]; omega), List.getElem?_eq_none (by omega)]
      · rw [List.getElem?_set_ne hj]
  exact idem vs fun _ z => z
section
variable {X : Cx} {cm : CM} {hidn : Hdn} {ac : Acc}
theorem or_dnew {g : Gd} {H : Hp} {h : Dm.Hd} {D : Addr} (b : Bool) : OR g (upd H D (dO b)) (Dm.up h D (.dct b [])) D (.dct b []) := by
  cases b with
  | false => exact ⟨[], upd_same, Nat.zero_le _, by unfold ER; rfl⟩
  | true => exact ⟨[], upd_same, Nat.zero_le _, by unfold ERT; rfl⟩
end
end Dr
end S_DDc2
section S_DSet
set_option Elab.async false
set_option linter.all false
set_option maxRecDepth 100000
set_option maxHeartbeats 1000000
/-! DSet: set(xs) of a list of ints (the walk of HandS.SetFor, for lists), sorted(set), remove, index, get, keys. -/
namespace Dr
open PySem PySem.Spec PyProof.Rows L2
section
variable {P : Program} {w : World} {A : Around} {E : Value → Shared → Prop} {s : Shared}
set_option maxHeartbeats 3200000 in
theorem set_of_list {l : Addr} {items : Array Value} (ns : List Int) {Q : Value → Shared → Prop} (hh : A.handled = none) (hl : s.heap.IsList l items) (hit : IntsAre items.toList ns) (hb : ns.length + 1 < scanBound)
    (h : ∀ (h' : Heap) (tk c : Nat), SetR w h' s.heap.objs.size (fun j => decide (j ∈ ns)) c → c ≤ ns.length → (∀ b o, s.heap.get? b = some o → h'.get? b = some o) → Q (.ref s.heap.objs.size) { s with heap := h', toks := tk }) :
    wpAny (model P w) A (call (.type "set") [.ref l]) Q E s := by
  have hisz : items.size = ns.length := by
    have q := IntsAre.length hit
    rw [Array.length_toList] at q
    exact q
  obtain ⟨c, tl, hmro⟩ := F.called_set.mro
  have hmade := F.called_set.made
  have hsub := F.called_set.sub
  refine wpAny_call (codeAny_of_tree ?_)
  show wpAny _ _ (callAny (.type "set") _) _ _ _
  refine wpAny_pure ⟨Code.quiet_builtin _ (by decide +kernel), codeAny_builtin F.entry_type_call ?_⟩
  rw [Around.under_plain (weight_type_call_type "set" [.ref l] []) rfl]
  have h1 := F.called_set.notType
  have h2 := F.called_set.canCreate
  have hct := F.typeCall_set_1 (.ref l)
  repeat (any_goals (first | assumption | wp_step))

  refine codeAny_mono (code_set_led1 (.ref l) (E := E) (Q₁ := fun obj s₁ => obj = .ref s.heap.objs.size ∧ s₁ = { s with heap := s.heap.push { cls := .type "set", dict := none, data := .set #[] 0 (.fresh 0 0 (!w.params.followText "set-order")) } }) ⟨rfl, rfl⟩) fun r s₁ hr => ?_
  cases r with
  | error e => exact hr
  | ok fl =>
    cases fl with
    | ret obj =>
      obtain ⟨rfl, rfl⟩ := hr
      have hS : (s.heap.push { cls := .type "set", dict := none, data := .set #[] 0 (.fresh 0 0 (!w.params.followText "set-order")) }).get? s.heap.objs.size = some { cls := .type "set", dict := none, data := .set #[] 0 (.fresh 0 0 (!w.params.followText "set-order")) } := Heap.get?_push_size _ rfl
      have hT : Shared.TypeIs { s with heap := s.heap.push { cls := .type "set", dict := none, data := .set #[] 0 (.fresh 0 0 (!w.params.followText "set-order")) } } (.ref s.heap.objs.size) "set" := ⟨_, hS, rfl⟩
      have hli := F.called_set.init.lookup
      have hbi := F.called_set.init.bind (.ref s.heap.objs.size)
      repeat (any_goals (first | assumption | wp_step))

      refine codeAny_mono (codeAny_call_builtin (R := wants (fun r s₂ => r = .none ∧ ∃ h' tk c, s₂ = { s with heap := h', toks := tk } ∧ SetR w h' s.heap.objs.size (fun j => decide (j ∈ ns)) c ∧ c ≤ ns.length ∧
          (∀ b o, s.heap.get? b = some o → h'.get? b = some o)) E) F.called_set.init.plain F.entry_set_init (check_set_init_1 hT ?_)) fun r₂ s₂ hr₂ => ?_
      · obtain ⟨ol, hol, hcl, nl, hdl⟩ := hl
        obtain ⟨ocls, odict, odata, oslots⟩ := ol
        simp only at hcl hdl
        subst hcl; subst hdl
        have hol' : (s.heap.push { cls := .type "set", dict := none, data := .set #[] 0 (.fresh 0 0 (!w.params.followText "set-order")) }).get? l = some { cls := .type "list", dict := odict, data := .seq items nl, slots := oslots } := Heap.get?_push_of_some _ hol
        have hsls := F.sub_list_set
        have hslf := F.sub_list_frozenset
        have hne : (Value.type "list" == Value.type "dict") = false := by decide
        have hl1 : (s.heap.push { cls := .type "set", dict := none, data := .set #[] 0 (.fresh 0 0 (!w.params.followText "set-order")) }).IsList l items := ⟨_, hol', rfl, nl, rfl⟩
        unfold Builtin.«set.__init__» noKeywords Builtin.Frozenset.updateFrom
        generalize hPI : pyIter = PI
        wp_walk
        subst hPI

        refine wpAny_pyIter_list hl1 ?_
        refine wpAny_bind (wpAny_runValue ?_)
        have hlS : l < s.heap.objs.size := Heap.lt_size hol
        have hh3 : A.in1.in1.in1.handled = none := by simp [hh]
        have hz1 : (s.heap.push { cls := .type "set", dict := none, data := .set #[] 0 (.fresh 0 0 (!w.params.followText "set-order")) }).objs.size = s.heap.objs.size + 1 := Heap.size_push ..
        have hneI : l ≠ (s.heap.push { cls := .type "set", dict := none, data := .set #[] 0 (.fresh 0 0 (!w.params.followText "set-order")) }).objs.size := by
          rw [Heap.size_push]; exact Nat.ne_of_lt (Nat.lt_succ_of_lt hlS)
        have hSf : s.heap.objs.size ∉ [(s.heap.push { cls := .type "set", dict := none, data := .set #[] 0 (.fresh 0 0 (!w.params.followText "set-order")) }).objs.size, l] := by
          rw [Heap.size_push]; simp only [List.mem_cons, List.mem_singleton, List.not_mem_nil, or_false, not_or]
          exact ⟨Nat.ne_of_lt (Nat.lt_succ_self _), Nat.ne_of_gt hlS⟩
        have hval : ∀ (i : Nat) (v : Value), items[i]? = some v → ∃ k t, ns[i]? = some k ∧ v = .int k t := fun i v hv => by
          have hi : i < ns.length := by rw [← hisz]; exact (Array.getElem?_eq_some_iff.mp hv).1
          obtain ⟨t, e⟩ := PyProof.Rows.IntsAre.int_at hit i v (by rw [Array.getElem?_toList]; exact hv)
          refine ⟨ns[i], t, List.getElem?_eq_getElem hi, ?_⟩
          rw [e, List.getD_eq_getElem?_getD, List.getElem?_eq_getElem hi] <;> rfl
        refine set_update_ints ((Walks.list hh3 _ l hneI items).toS) s.heap.objs.size
          hSf ns hisz hb hval (items.size - 0) 0 _ (by omega) (Nat.zero_le _)
          ⟨⟨_, Heap.get?_push_size _ rfl, rfl, rfl⟩, (hl1.push _)⟩ ?hS0 ?hR
        case hS0 =>
          have hget : ((s.heap.push { cls := .type "set", dict := none, data := .set #[] 0 (.fresh 0 0 (!w.params.followText "set-order")) }).push { cls := .type "list_iterator", data := .fields #[.ref l, .int 0 0] }).get? s.heap.objs.size
              = some { cls := .type "set", dict := none, data := .set #[] 0 (.fresh 0 0 (!w.params.followText "set-order")) } := Heap.get?_push_of_some _ hS
          exact ⟨0, Nat.le_refl 0, setR_new_at hget⟩
        case hR =>
          intro s' c' hm hc' hS'
          obtain ⟨h', g2, d', tk', os'⟩ := s'
          have eg : g2 = s.gens := hm.gens
          have ed : d' = s.drawn := hm.drawn
          have eo : os' = s.os := hm.os
          subst eg; subst ed; subst eo
          show wpAny _ _ _ _ _ _
          refine wpAny_pure ?_
          show wpAny _ _ (ret Value.none) _ _ _
          rw [hisz] at hc'
          refine wpAny_pure ⟨rfl, h', tk', c', rfl, hS', hc', fun b o e => ?_⟩
          have hb0 : b < s.heap.objs.size := Heap.lt_size e
          have hb1 : b ≠ s.heap.objs.size := Nat.ne_of_lt hb0
          have hb2 : b ≠ (s.heap.push { cls := .type "set", dict := none, data := .set #[] 0 (.fresh 0 0 (!w.params.followText "set-order")) }).objs.size := by
            rw [Heap.size_push]; exact Nat.ne_of_lt (Nat.lt_succ_of_lt hb0)
          exact hm.heap b o (by simp only [List.mem_cons, List.mem_singleton, List.not_mem_nil, or_false, not_or]; exact ⟨hb1, hb2⟩) (Heap.get?_push_of_some _ (Heap.get?_push_of_some _ e))

      · cases r₂ with
        | error e => exact hr₂
        | ok fl₂ =>
          cases fl₂ with
          | ret r =>
            obtain ⟨rfl, h', tk, c', rfl, hS', hc', hk'⟩ := hr₂
            repeat (any_goals (first | assumption | wp_step))
            exact h _ _ _ hS' hc' hk'
          | _ => exact hr₂.elim
    | _ => exact hr.elim

end
section
variable {X : Cx} {cm : CM} {hidn : Hdn} {ac : Acc}
theorem cb_set (hc : X.calm = true) : CallR X (.type "set") (LB (gOf X cm hidn) Dm.bSet) := by
  intro pins s σ H vs us Q I rv ⟨ds, h, P, xs, hr, q, k⟩
  match ds, q, xs with
  | [d], ⟨l, ns, e, en, hn, q⟩, xs =>
    obtain ⟨v, rfl, xv⟩ := vs1 xs
    by_cases nt : ∃ m, d = .tup m
    · obtain ⟨m, rfl⟩ := nt
      have em : m = l := by simpa [Dm.sq] using e
      subst em
      obtain ⟨a, us', rfl, ha, _, xa⟩ := vT xv
      obtain rfl := ints_vals xa en
      obtain ⟨its, r', pl, _⟩ := I.tuple (T_of (K := X.K) ha)
      rw [Vals.ref1 rv]
      have nn : H s.heap.objs.size = none := I.hok.fresh (Nat.le_refl _)
      refine call_set_tupI ns (I.ok.hd hc) pl (Vals.ints r') (by unfold scanBound; omega) fun h' tk c R hcn kp => ?_
      refine ⟨.ref s.heap.objs.size, upd H s.heap.objs.size (SetO X.w s.heap.objs.size (fun j => decide (j ∈ ns)) c), I.laid (t' := tk) kp (Nat.le_refl _) (setO_new R), rfl, ?_⟩
      refine k _ _ _ _ q (Stp.new nn) (hr.new nn) ?_
      unfold VR
      exact ⟨_, _, c, rfl, hr.nh nn, hr.off nn, upd_same, fun k => by simp, by omega⟩
    · obtain ⟨a, xu, rfl, hs, z, xa⟩ := sq_nt hr xv e fun m z => nt ⟨m, z⟩
      obtain rfl := ints_vals xa en
      obtain ⟨its, r', pl, _⟩ := I.list hs
      rw [Vals.ref1 rv]
      have nn : H s.heap.objs.size = none := I.hok.fresh (Nat.le_refl _)
      refine set_of_list ns (I.ok.hd hc) pl.isList (Vals.ints r') (by unfold scanBound; omega) fun h' tk c R hcn kp => ?_
      refine ⟨.ref s.heap.objs.size, upd H s.heap.objs.size (SetO X.w s.heap.objs.size (fun j => decide (j ∈ ns)) c), I.laid (t' := tk) kp (Nat.le_refl _) (setO_new R), rfl, ?_⟩
      refine k _ _ _ _ q (Stp.new nn) (hr.new nn) ?_
      unfold VR
      exact ⟨_, _, c, rfl, hr.nh nn, hr.off nn, upd_same, fun k => by simp, by omega⟩
theorem ints_vr {g : Gd} {H : Hp} {h : Dm.Hd} : ∀ ns : List Int, VRs g H h (ns.map Dm.D.int) (ns.map V.int)
  | [] => .nil
  | i :: ns => .cons xI (ints_vr ns)
theorem cb_sortedSet (hc : X.calm = true) : CallR X (.builtin "sorted") (LB (gOf X cm hidn) Dm.bSortedSet) := CallR.imp (cr_sortedSet hc) fun vs H Q ⟨ds, h, P, xs, hr, q, k⟩ => by
  match ds, q, xs with
  | [.set ns], q, xs =>
    obtain ⟨v, rfl, xv⟩ := vs1 xs
    unfold VR at xv
    obtain ⟨a, S, n, rfl, _, _, e3, e4, e5⟩ := xv
    refine ⟨a, S, n, rfl, e3, e5, fun ms p h1 h2 h3 h4 => ?_⟩
    refine k.lst hr (q ms h1 fun k => (h2 k).trans (e4 k)) (ints_vr ms) (by rw [List.length_map, h3, sizeLine_eq]; omega) h4
theorem er_keys {g : Gd} {H : Hp} {h : Dm.Hd} : ∀ {l : List (Dm.D × Dm.D)} {es : List (Key × V)} {ns : List Int}, ER g H h l es → Dm.intsOf (l.map (·.1)) = some ns → es.map (·.1) = ns.map Sum.inl
  | [], _, _, r, e => by
    unfold ER at r
    subst r
    simp [Dm.intsOf] at e
    subst e
    rfl
  | (d, x) :: l, _, ns, r, e => by
    unfold ER at r
    obtain ⟨q, v, t, rfl, r1, r2, r3⟩ := r
    cases d with
    | int i =>
      simp only [List.map_cons, Dm.intsOf] at e
      cases f : Dm.intsOf (l.map (·.1)) with
      | none => simp [f] at e
      | some ms =>
        simp [f] at e
        subst e
        have : q = Sum.inl i := r1
        subst this
        rw [List.map_cons, List.map_cons, er_keys r3 f]
    | _ => simp [Dm.intsOf] at e
theorem cb_sortedD (hc : X.calm = true) : CallR X (.builtin "sorted") (LB (gOf X cm hidn) Dm.bSortedD) := LB.one (call_sortedDI hc) (one_of (fun _ _ q => q) fun _ _ _ _ _ q => q) fun d v h H P Q xv hr ⟨l, ns, e, en, hn, q⟩ k => by
  cases d with
  | ref a =>
    obtain rfl := vR xv
    unfold Dm.dctAt at e
    cases f : h a with
    | none => simp [f] at e
    | some o =>
      cases o with
      | dct t m =>
        simp [f] at e
        obtain ⟨rfl, rfl⟩ := e
        obtain ⟨es, e1, e2, e3⟩ := hr a _ f
        have hl : ns.length = m.length := by
          have := congrArg List.length (er_keys e3 en)
          rw [List.length_map, List.length_map, ER.len e3] at this
          exact this.symm
        refine ⟨a, es, ns, rfl, .inl e1, er_keys e3 en, by omega, fun ys p h1 h2 h3 => ?_⟩
        exact k.lst hr (q ys h1 h2) (ints_vr ys) (by rw [List.length_map, h1.length_eq, sizeLine_eq]; omega) h3
      | lst _ => simp [f] at e
      | ins _ _ => simp [f] at e
  | _ => simp [Dm.dctAt] at e
end
end Dr
end S_DSet
section S_DMth
set_option Elab.async false
set_option linter.all false
set_option maxRecDepth 100000
set_option maxHeartbeats 1000000
/-! DMth: remove, index, get. -/
namespace Dr
open PySem PySem.Spec PyProof.Rows L2
theorem fst_at {x : Dm.D} (px : Dm.plain 50 x = true) : ∀ {l : List Dm.D} {j : Nat}, Dm.plainL 50 l = true → Dm.fstIx x l = some j → (∃ z, (pyL l)[j]? = some z ∧ PyData.eqv z (py x) = true) ∧ ∀ (m : Nat) (z : PyData), m < j → (pyL l)[m]? = some z → PyData.eqv z (py x) = false
  | [], _, _, e => by simp [Dm.fstIx] at e
  | d :: l, j, p, e => by
    unfold Dm.plainL at p
    rw [Bool.and_eq_true] at p
    unfold Dm.fstIx at e
    have he := py_eqv 50 50 d x p.1 px
    by_cases q : Dm.eqv d x = true
    · rw [if_pos q] at e
      cases e
      exact ⟨⟨py d, rfl, he.trans q⟩, fun m z hm _ => absurd hm (Nat.not_lt_zero m)⟩
    · rw [if_neg q] at e
      cases f : Dm.fstIx x l with
      | none => simp [f] at e
      | some i =>
        simp [f] at e
        subst e
        obtain ⟨⟨z, h1, h2⟩, h3⟩ := fst_at px p.2 f
        refine ⟨⟨z, by simpa [pyL] using h1, h2⟩, fun m z hm hz => ?_⟩
        cases m with
        | zero =>
          simp [pyL] at hz
          subst hz
          rw [he]
          simpa using q
        | succ m => exact h3 m z (by omega) (by simpa [pyL] using hz)
theorem rm_erase {x : Dm.D} : ∀ {l : List Dm.D}, l.any (fun y => Dm.eqv y x) = true → ∃ j, Dm.fstIx x l = some j ∧ Dm.rmFst x l = l.eraseIdx j ∧ j < l.length
  | [], e => by simp at e
  | d :: l, e => by
    unfold Dm.fstIx Dm.rmFst
    by_cases q : Dm.eqv d x = true
    · rw [if_pos q, if_pos q]
      exact ⟨0, rfl, rfl, by simp⟩
    · rw [if_neg q, if_neg q]
      rw [List.any_cons, Bool.or_eq_true] at e
      obtain ⟨j, h1, h2, h3⟩ := rm_erase (e.resolve_left q)
      exact ⟨j + 1, by rw [h1]; rfl, by rw [h2]; rfl, by simp; omega⟩
theorem VRs.erase {g : Gd} {H : Hp} {h : Dm.Hd} : ∀ {l : List Dm.D} {vs : List V} (j : Nat), VRs g H h l vs → VRs g H h (l.eraseIdx j) (vs.eraseIdx j)
  | [], _, j, x => by unfold VRs at x; subst x; simpa using VRs.nil
  | d :: l, _, 0, x => by
    unfold VRs at x
    obtain ⟨v, r, rfl, a, b⟩ := x
    simpa using b
  | d :: l, _, j + 1, x => by
    unfold VRs at x
    obtain ⟨v, r, rfl, a, b⟩ := x
    simpa using VRs.cons a (VRs.erase j b)
section
variable {X : Cx} {cm : CM} {hidn : Hdn} {ac : Acc} {p pos apos : Pos} {e f o : Expr} {es : List Expr} {t : Dm.TA} {to te tf : Dm.TE}
def rRemD (K : PySem.W.Frag) : V → List V → Hp → VK → Prop := fun x xs H Q => ∃ (a : Addr) (vs : List V) (y : V) (d : PyData) (ds : List PyData) (j : Nat), x = V.ref a ∧ xs = [y] ∧ H a = some (.lst vs) ∧ DpAll K H vs ds ∧ Dp K H y d ∧ SeqAt.shaped (.list ds) = true ∧ SeqAt.shaped d = true ∧
  (∃ z, ds[j]? = some z ∧ PyData.eqv z d = true) ∧ (∀ (m : Nat) (z' : PyData), m < j → ds[m]? = some z' → PyData.eqv z' d = false) ∧ Q .non (upd H a (.lst (vs.eraseIdx j)))
theorem mt_removeD (hu : X.A.units + 65 < cLine) : MtR X "list.remove" (rRemD X.K) := by
  intro pins s σ H x xs v us Q I rx rxs h
  obtain ⟨a, vs, y, d, ds, j, rfl, rfl, ha, hds, hy, sl, sd, ⟨z, hz, hzj⟩, hno, q⟩ := h
  cases rx
  obtain ⟨uy, rfl, ry⟩ := rxs.one
  obtain ⟨bs, r1⟩ := Dp.reads I d y uy hy ry
  have hxs : PyData.canLayAll0 ds = true := SeqAt.canLay_of_shaped sl
  have hroom : X.A.units + 1 + min (PyData.depthAll ds) d.depth < cLine := room_in_shaped sd hu
  obtain ⟨zz, its, n, rv, hl, ee⟩ := I.lstM ha
  obtain ⟨as, h4⟩ := Dp.readsAll I ds vs its hds rv
  have hn : its.length = ds.length := SeqAt.ReadsAll.length ds its as h4
  have hmap : its.map (SeqAt.readOf s.heap) = ds := SeqAt.readsAll_map ds its as hxs h4
  obtain ⟨hjd, _⟩ := List.getElem?_eq_some_iff.mp hz
  have hjl : j < its.length := by omega
  have hj : j < its.toArray.size := by simpa using hjl
  have at_ : ∀ (m : Nat) (hm : m < its.toArray.size) (z' : PyData), ds[m]? = some z' → SeqAt.readOf s.heap its.toArray[m] = z' := by
    intro m hm z' hz'
    have hml : m < its.length := by simpa using hm
    rw [← hmap, List.getElem?_map, List.getElem?_eq_getElem hml] at hz'
    have e1 : SeqAt.readOf s.heap its[m] = z' := Option.some.inj (show some (SeqAt.readOf s.heap its[m]) = some z' from hz')
    simpa using e1
  refine call_meets PySem.F.slot_list_remove ⟨_, ee, rfl⟩ PySem.F.entry_list_remove (PySem.F.args_list_remove_2 _ _)
    (SeqAt.list_removeAt a its.toArray n none #[] uy (fun u => PyData.eqv (SeqAt.readOf s.heap u) d) j hj ?_ ?_ (by rw [List.size_toArray]; omega)) ⟨ee, SeqAt.items_eqAt (vs := its.toArray) (show ReadsAll s.heap its.toArray.toList ds as from h4) r1 hxs (SeqAt.canLay_of_shaped sd) hroom, ?_⟩
  · show PyData.eqv (SeqAt.readOf s.heap its.toArray[j]) d = true
    rw [at_ j hj z hz]
    exact hzj
  · intro m hm hmj
    have hmd : m < ds.length := by omega
    have hz' : ds[m]? = some ds[m] := List.getElem?_eq_getElem hmd
    show PyData.eqv (SeqAt.readOf s.heap its.toArray[m]) d = false
    rw [at_ m hm _ hz']
    exact hno m _ hmj hz'
  · refine ⟨.non, _, I.lset (its' := its.eraseIdx j) (t' := s.toks) ha ee ?_ (rv.eraseIdx j) ?_, rfl, q⟩
    · show its.toArray.eraseIdxIfInBounds j = (its.eraseIdx j).toArray
      rw [List.eraseIdxIfInBounds_toArray]
    · have z2 := len_erase vs j
      have := rv.length
      omega
theorem de_rem (hu : X.A.units + 65 < cLine) (ho : PE X o (LE (gOf X cm hidn) ac to)) (ha : PA X (e :: es) (LA (gOf X cm hidn) ac t))
    (hbase : attributeBase o "remove" X.env (eval o X.env) = eval o X.env := by rfl)
    (hfew : ((backTo pos (starEach (e :: es) X.env)).all (fun x => !x.1) && (backToKw pos (keywordEach [] X.env)).all (fun x => x.1.isSome)
      && decide ((e :: es).length + ([] : List Keyword).length + (if ([] : List Keyword).isEmpty then 0 else 1) < 30)) = true := by rfl)
    (hline : (apos.endLine == pos.line) = true := by rfl) (hs : starEach (e :: es) X.env = (false, eval e X.env) :: starEach es X.env := by rfl) (hplain : (backTo pos (starEach es X.env)).any (·.1) = false := by rfl) :
    PE X (.Call (.Attribute o "remove" apos) (e :: es) [] pos) (LE (gOf X cm hidn) ac (Dm.eM Dm.tyL Dm.mRem to t)) :=
  (pe_bm F.plainAttrs_list F.slot_list_remove F.type_list_remove (MtR.imp (mt_removeD (X := X) hu) fun x xs H Q ⟨d, ds, h, P, xd, xds, hr, q, k⟩ => by
    match d, ds, q, xd, xds with
    | .ref p, [z], ⟨l, e, pl, pz, an, q⟩, xd, xds =>
      obtain rfl := vR xd
      obtain ⟨v, rfl, xv⟩ := vs1 xds
      obtain ⟨vs, e1, e2, e3⟩ := hr p _ e
      obtain ⟨j, f1, f2, f3⟩ := rm_erase an
      obtain ⟨g1, g2⟩ := fst_at pz pl f1
      refine ⟨p, vs, v, py z, pyL l, j, rfl, rfl, e1, py_dpL 50 l vs pl e3, py_dp 50 z v pz xv, shL pl, py_sh (by decide) pz, g1, g2, ?_⟩
      have st : Stp h H (Dm.up h p (.lst (Dm.rmFst z l))) (upd H p (.lst (vs.eraseIdx j))) := Stp.write e
      refine k _ _ _ _ q st (hr.write e ⟨_, upd_same, ?_, ?_⟩) xN
      · rw [f2]
        have := List.length_eraseIdx_le l j
        omega
      · rw [f2] at st ⊢
        exact (VRs.stp hr st _ _ e3).erase j) ho ha hbase hfew hline hs hplain).imp fun σ H Q q =>
    LE.meth (o := o) (fun d h v H hr x ty => tyL_list hr x ty) q
theorem de_idx (hu : X.A.units + 65 < cLine) (ho : PE X o (LE (gOf X cm hidn) ac to)) (ha : PA X (e :: es) (LA (gOf X cm hidn) ac t))
    (hbase : attributeBase o "index" X.env (eval o X.env) = eval o X.env := by rfl)
    (hfew : ((backTo pos (starEach (e :: es) X.env)).all (fun x => !x.1) && (backToKw pos (keywordEach [] X.env)).all (fun x => x.1.isSome)
      && decide ((e :: es).length + ([] : List Keyword).length + (if ([] : List Keyword).isEmpty then 0 else 1) < 30)) = true := by rfl)
    (hline : (apos.endLine == pos.line) = true := by rfl) (hs : starEach (e :: es) X.env = (false, eval e X.env) :: starEach es X.env := by rfl) (hplain : (backTo pos (starEach es X.env)).any (·.1) = false := by rfl) :
    PE X (.Call (.Attribute o "index" apos) (e :: es) [] pos) (LE (gOf X cm hidn) ac (Dm.eM Dm.tyL Dm.mIdx to t)) :=
  (pe_bm F.plainAttrs_list F.slot_list_index F.type_list_index (MtR.imp (mt_indexD (X := X) hu) fun x xs H Q ⟨d, ds, h, P, xd, xds, hr, q, k⟩ => by
    match ds, q, xds with
    | [z], ⟨l, j, e, pl, pz, fj, q⟩, xds =>
      obtain ⟨v, rfl, xv⟩ := vs1 xds
      obtain ⟨a, vs, rfl, hH, _, xa⟩ := sqL_at hr xd e
      obtain ⟨⟨w, g1, g2⟩, g3⟩ := fst_at pz pl fj
      exact ⟨a, v, py z, pyL l, j, w, rfl, rfl, .lst (L_of hH) (py_dpL 50 l vs pl xa), py_dp 50 z v pz xv, shL pl, py_sh (by decide) pz, g1, g2, g3, k.here hr q xI⟩) ho ha hbase hfew hline hs hplain).imp fun σ H Q q =>
    LE.meth (o := o) (fun d h v H hr x ty => tyL_list hr x ty) q
end
end Dr
end S_DMth
section S_DLc
set_option Elab.async false
set_option linter.all false
set_option maxRecDepth 100000
set_option maxHeartbeats 1000000
/-! DLc: a name gets a comprehension; parallel assignments of three; dict displays. -/
namespace Dr
open PySem PySem.Spec PyProof.Rows L2
section
variable {X : Cx} {cm : CM} {hidn : Hdn} {ac : Acc}
theorem LE.lc {it : Dm.TI} {g : Dm.TG} {t : Dm.TT} {e : Dm.TE} {vs : List Nat} {σ : L2.St} {H : Hp} {Q : VK} (q : LE (gOf X cm hidn) ac (Dm.eLc it g t e vs) σ H Q) :
    L2.tLc (LI (gOf X cm hidn) ac it) (XG X cm (wipeS vs) g) (XT X cm t) (XEl X cm e) vs σ H Q := by
  obtain ⟨s, h, E, P, sr, hr, hac, q, k⟩ := q
  exact lc_read sr hr hac q fun ys h2 D us H2 p st _ r nDD nD eD nh _ xs ln => k _ _ _ _ p st r (by unfold VR; exact ⟨D, us, rfl, nh, eD, nD, ln, xs⟩)
theorem LE.lcH {it : Dm.TI} {g : Dm.TG} {t : Dm.TT} {e : Dm.TE} {vs : List Nat} {σ : L2.St} {H : Hp} {Q : VK} (q : LE (gOf X cm hidn) ac (Dm.eLcH it g t e vs) σ H Q) :
    L2.tLc (LI (gOf X cm hidn) ac it) (XG X cm (wipeS vs) g) (XT X cm t) (XEl X cm e) vs σ H Q := by
  obtain ⟨s, h, E, P, sr, hr, hac, q, k⟩ := q
  refine lc_read sr hr hac q fun ys h2 D us H2 p st rH r nDD nD eD nh xH xs ln => ?_
  have st2 : Stp h H (Dm.up h2 D (.lst ys)) H2 := fun a u ea na nt => by
    have ne : a ≠ D := fun z => by subst z; exact nDD u ea na nt
    obtain ⟨z1, z2⟩ := st a u ea na nt
    exact ⟨z1, by rw [Dm.up_ne ne]; exact z2⟩
  have T2 : ∀ a u, ¬ (hidn a ∨ a = D) → H2 a = some u → ¬ hidn a ∧ H2 a = some u := fun a u n e => ⟨fun z => n (.inl z), e⟩
  have Th : ∀ a, ¬ (hidn a ∨ a = D) → h2 a = none → (Dm.up h2 D (.lst ys)) a = none := fun a n e => by rw [Dm.up_ne fun z => n (.inr z)]; exact e
  refine k _ _ _ _ (p D nD) st2 ⟨fun a o ea => ?_, fun a z => ?_, fun pt hp => ?_⟩ xR
  · by_cases e : a = D
    · subst e
      rw [Dm.up_same] at ea
      cases ea
      exact ⟨us, eD, ln, VRs.trh T2 Th _ _ xH⟩
    · rw [Dm.up_ne e] at ea
      have x := rH a o ea
      have na := rH.nh2 ea
      cases o with
      | lst l => obtain ⟨vs, e1, e2, e3⟩ := x; exact ⟨vs, e1, e2, VRs.trh T2 Th l vs e3⟩
      | dct t l =>
        cases t with
        | false => obtain ⟨vs, e1, e2, e3⟩ := x; exact ⟨vs, e1, e2, ER.trh T2 Th l vs e3⟩
        | true => obtain ⟨vs, e1, e2, e3⟩ := x; exact ⟨vs, e1, e2, ERT.trh T2 Th l vs e3⟩
      | ins c fs => obtain ⟨dx, gs, e1, e3⟩ := x; exact ⟨dx, gs, e1, FR.trh T2 Th fs gs e3⟩
  · obtain ⟨z1, z2⟩ := r.hd a z
    have ne : a ≠ D := fun e => by subst e; exact nh z
    exact ⟨by rw [Dm.up_ne ne]; exact z1, z2⟩
  · exact (rH.tb pt hp).tr (z := hidn.p) T2 Th
theorem LS.set {t : Dm.TE} {i : Nat} {D : Ends} {σ : L2.St} {H : Hp} (q : LS (gOf X cm hidn) ac (Dm.sAsg t (Dm.gN i)) D σ H) : LE (gOf X cm hidn) ac t σ H fun v H1 => D.nx (σ.set i (some v)) H1 := by
  obtain ⟨s, h, P, sr, hr, q, k⟩ := q
  exact LE.mk sr hr (k.ex s h σ H (Stp.refl _ _) hr sr) q fun d h1 v H1 q1 s1 r1 x1 => k.nx _ _ _ _ q1 s1 r1 ((sr.stp hr s1).set i x1)
theorem ds_setLc {i : Nat} {y : Str} {py : Pos} {elt tg iter : Expr} {ifs : List Expr} {scope : Scope} {own : List (Str × Nat)} {pos spos : Pos} {it : Dm.TI} {g : Dm.TG} {t : Dm.TT} {e : Dm.TE} (hc : X.calm = true) (hN : X.N.Nodup) (hy : X.N[i]? = some y) (hyl : X.env.scope.names.lookup y = some .local)
    (hsw : swapsWith (.ListComp elt [⟨tg, iter, ifs, 0⟩] scope pos) (some (.Name y py)) spos.line X.env = pure true) (hi : PI X tg iter (LI (gOf X cm hidn) ac it)) (ok : BlkOk X.N X.env.scope scope own)
    (hg : ∀ (z : Hdn) (s : Shared) (H : Hp) (C : Addr) (cl : List (Str × Addr)) (fp : List Addr), PG (X.blk s H scope (compEnvC scope cl C X.env) fp) tg (LG (gOf (X.blk s H scope (compEnvC scope cl C X.env) fp) cm z) acc0 (wipeS (own.map (·.2))) g))
    (ht : ∀ (z : Hdn) (s : Shared) (H : Hp) (C : Addr) (cl : List (Str × Addr)) (fp : List Addr), PTs (X.blk s H scope (compEnvC scope cl C X.env) fp) ifs (LT (gOf (X.blk s H scope (compEnvC scope cl C X.env) fp) cm z) acc0 t))
    (he : ∀ (z : Hdn) (s : Shared) (H : Hp) (C : Addr) (cl : List (Str × Addr)) (fp : List Addr), PE (X.blk s H scope (compEnvC scope cl C X.env) fp) elt (LE (gOf (X.blk s H scope (compEnvC scope cl C X.env) fp) cm z) acc0 e))
    (hs : ∀ x, foldedSetIterable iter X.env x = pure x := by intro _; rfl) : PS X (.Assign [.Name y py] (.ListComp elt [⟨tg, iter, ifs, 0⟩] scope pos) spos) (LS (gOf X cm hidn) ac (Dm.sAsg (Dm.eLc it g t e (own.map (·.2))) (Dm.gN i))) :=
  (ps_setLc hc hN hy hyl hsw hi ok (g := XG X cm (wipeS (own.map (·.2))) g) (tt := XT X cm t) (te := XEl X cm e) (fun s H C cl fp => xg fun z => hg z s H C cl fp) (fun s H C cl fp => xt fun z => ht z s H C cl fp) (fun s H C cl fp => xe fun z => he z s H C cl fp) hs).imp
    fun D σ H q => by
      have z := LE.lc (LS.set q)
      exact z
theorem ds_setLcH {i : Nat} {y : Str} {py : Pos} {elt tg iter : Expr} {ifs : List Expr} {scope : Scope} {own : List (Str × Nat)} {pos spos : Pos} {it : Dm.TI} {g : Dm.TG} {t : Dm.TT} {e : Dm.TE} (hc : X.calm = true) (hN : X.N.Nodup) (hy : X.N[i]? = some y) (hyl : X.env.scope.names.lookup y = some .local)
    (hsw : swapsWith (.ListComp elt [⟨tg, iter, ifs, 0⟩] scope pos) (some (.Name y py)) spos.line X.env = pure true) (hi : PI X tg iter (LI (gOf X cm hidn) ac it)) (ok : BlkOk X.N X.env.scope scope own)
    (hg : ∀ (z : Hdn) (s : Shared) (H : Hp) (C : Addr) (cl : List (Str × Addr)) (fp : List Addr), PG (X.blk s H scope (compEnvC scope cl C X.env) fp) tg (LG (gOf (X.blk s H scope (compEnvC scope cl C X.env) fp) cm z) acc0 (wipeS (own.map (·.2))) g))
    (ht : ∀ (z : Hdn) (s : Shared) (H : Hp) (C : Addr) (cl : List (Str × Addr)) (fp : List Addr), PTs (X.blk s H scope (compEnvC scope cl C X.env) fp) ifs (LT (gOf (X.blk s H scope (compEnvC scope cl C X.env) fp) cm z) acc0 t))
    (he : ∀ (z : Hdn) (s : Shared) (H : Hp) (C : Addr) (cl : List (Str × Addr)) (fp : List Addr), PE (X.blk s H scope (compEnvC scope cl C X.env) fp) elt (LE (gOf (X.blk s H scope (compEnvC scope cl C X.env) fp) cm z) acc0 e))
    (hs : ∀ x, foldedSetIterable iter X.env x = pure x := by intro _; rfl) : PS X (.Assign [.Name y py] (.ListComp elt [⟨tg, iter, ifs, 0⟩] scope pos) spos) (LS (gOf X cm hidn) ac (Dm.sAsg (Dm.eLcH it g t e (own.map (·.2))) (Dm.gN i))) :=
  (ps_setLc hc hN hy hyl hsw hi ok (g := XG X cm (wipeS (own.map (·.2))) g) (tt := XT X cm t) (te := XEl X cm e) (fun s H C cl fp => xg fun z => hg z s H C cl fp) (fun s H C cl fp => xt fun z => ht z s H C cl fp) (fun s H C cl fp => xe fun z => he z s H C cl fp) hs).imp
    fun D σ H q => by
      have z := LE.lcH (LS.set q)
      exact z
/-- a < b <= c as a test -/
theorem dt_chain {a b c : Expr} {op op' : CmpOp} {pos : Pos} {t u w : Dm.TE} {o o' : Dm.D → Dm.D → Dm.Hd → Dm.QP → Prop} (ho : OpR X (compareOp op) (LO (gOf X cm hidn) o)) (ho' : OpR X (compareOp op') (LO (gOf X cm hidn) o')) (ha : PE X a (LE (gOf X cm hidn) ac t)) (hb : PE X b (LE (gOf X cm hidn) ac u)) (hc : PE X c (LE (gOf X cm hidn) ac w)) (hm : lastMarks [op, op'] [b, c] = false) :
    PT X (.Compare a [op, op'] [b, c] pos) (LT (gOf X cm hidn) ac (Dm.tE (Dm.eChain o o' t u w))) := (pt_chain ho ho' ha hb hc hm).imp fun σ H Q ⟨s, h, E, P, sr, hr, hac, q, k⟩ => by
  refine ⟨s, h, E, _, sr, hr, hac, q, fun d h1 v H1 q1 s1 r1 x1 => ⟨s, h1, E, _, sr.stp hr s1, r1, ac.stp hac s1, q1, fun e h2 u H2 q2 s2 r2 x2 => ⟨d, e, h2, _, VR.stp r1 s2 d v x1, x2, r2, q2, fun z h3 zv H3 q3 s3 r3 x3 => ?_⟩⟩⟩
  obtain ⟨b, ez, q3⟩ := q3
  subst ez
  unfold VR at x3
  subst x3
  refine ⟨b, rfl, ?_⟩
  cases b with
  | true =>
    rw [if_pos rfl] at q3 ⊢
    have s03 := (s1.trans s2).trans s3
    exact ⟨s, h3, E, _, sr.stp hr s03, r3, ac.stp hac s03, q3, fun f h4 fv H4 q4 s4 r4 x4 => ⟨e, f, h4, _, VR.stp r3 s4 e u (VR.stp r2 s3 e u x2), x4, r4, q4, fun z h5 zv H5 ⟨b, ez, q5⟩ s5 r5 x5 => ⟨b, by subst ez; unfold VR at x5; exact x5, k _ _ _ q5 ((s03.trans s4).trans s5) r5⟩⟩⟩
  | false =>
    rw [if_neg Bool.false_ne_true] at q3 ⊢
    obtain ⟨b, eb, q3⟩ := q3
    exact ⟨false, rfl, k _ _ _ (by cases eb; exact q3) ((s1.trans s2).trans s3) r3⟩
theorem dt_isN {a : Expr} {pos pos' : Pos} {j} {t : Dm.TE} (ha : PE X a (LE (gOf X cm hidn) ac t)) : PT X (.Compare a [.Is] [.Constant .none j pos'] pos) (LT (gOf X cm hidn) ac (Dm.tE (Dm.eUn Dm.oIsN t))) :=
  (pt_cmpR (dop_isN (cm := cm) (hidn := hidn)) ha (pe_non (j := j) (pos := pos')) (by rfl)).imp fun σ H Q ⟨s, h, E, P, sr, hr, hac, q, k⟩ => ⟨s, h, E, _, sr, hr, hac, q, fun d h1 v H1 q1 s1 r1 x1 => ⟨rfl, d, h1, _, x1, r1, q1, fun z h3 zv H3 ⟨b, ez, q3⟩ s3 r3 x3 => ⟨b, by subst ez; unfold VR at x3; exact x3, k _ _ _ q3 (s1.trans s3) r3⟩⟩⟩
theorem dt_isNotN {a : Expr} {pos pos' : Pos} {j} {t : Dm.TE} (ha : PE X a (LE (gOf X cm hidn) ac t)) : PT X (.Compare a [.IsNot] [.Constant .none j pos'] pos) (LT (gOf X cm hidn) ac (Dm.tE (Dm.eUn Dm.oIsNotN t))) :=
  (pt_cmpR (dop_isNotN (cm := cm) (hidn := hidn)) ha (pe_non (j := j) (pos := pos')) (by rfl)).imp fun σ H Q ⟨s, h, E, P, sr, hr, hac, q, k⟩ => ⟨s, h, E, _, sr, hr, hac, q, fun d h1 v H1 q1 s1 r1 x1 => ⟨rfl, d, h1, _, x1, r1, q1, fun z h3 zv H3 ⟨b, ez, q3⟩ s3 r3 x3 => ⟨b, by subst ez; unfold VR at x3; exact x3, k _ _ _ q3 (s1.trans s3) r3⟩⟩⟩
/-- x, y, z = a, b, c with plain local names -/
theorem ds_par3 {i j l : Nat} {x y z : Str} {a b c : Expr} {px py pz pt pos : Pos} {kt k2 pt2} {t u w : Dm.TE} (hc : X.calm = true) (hN : X.N.Nodup) (hi : X.N[i]? = some x) (hj : X.N[j]? = some y) (hl : X.N[l]? = some z) (hij : i ≠ j) (hil : i ≠ l) (hjl : j ≠ l)
    (hx : X.env.scope.names.lookup x = some .local) (hy : X.env.scope.names.lookup y = some .local) (hz : X.env.scope.names.lookup z = some .local) (ha : PE X a (LE (gOf X cm hidn) ac t)) (hb : PE X b (LE (gOf X cm hidn) ac u)) (hcc : PE X c (LE (gOf X cm hidn) ac w))
    (hw : swappedStores [.Tuple [.Name x px, .Name y py, .Name z pz] kt pt] (.Tuple [a, b, c] k2 pt2) X.env = pure (some [x, y, z]))
    (hst : starEach [a, b, c] X.env = (false, eval a X.env) :: starEach [b, c] X.env := by rfl) (hst2 : starEach [b, c] X.env = (false, eval b X.env) :: starEach [c] X.env := by rfl) (hst3 : starEach [c] X.env = (false, eval c X.env) :: starEach [] X.env := by rfl)
    (hs : swapsWithSole [.Tuple [.Name x px, .Name y py, .Name z pz] kt pt] (.Tuple [a, b, c] k2 pt2) pos.line X.env = pure false := by rfl) :
    PS X (.Assign [.Tuple [.Name x px, .Name y py, .Name z pz] kt pt] (.Tuple [a, b, c] k2 pt2) pos) (LS (gOf X cm hidn) ac (Dm.sAsg (Dm.eTup (Dm.aCons t (Dm.aCons u (Dm.aCons w Dm.aNil)))) (Dm.gTup 3 (Dm.gCons (Dm.gN i) (Dm.gCons (Dm.gN j) (Dm.gCons (Dm.gN l) Dm.gNil)))))) :=
  (ps_par3 hc hN hi hj hl hij hil hjl hx hy hz (da_cons ha (da_cons hb (da_cons hcc da_nil hst3) hst2) hst) hw hs).imp fun D σ H ⟨s, h, P, sr, hr, q, k⟩ => by
    refine ⟨s, h, _, (fun xs h1 => xs.length ≤ Dm.lim ∧ Dm.gTup 3 (Dm.gCons (Dm.gN i) (Dm.gCons (Dm.gN j) (Dm.gCons (Dm.gN l) Dm.gNil))) (.tup xs) s h1 (fun x h' => ∀ s', P.ex x s' h') P.nx), sr, hr, k.ex s h σ H (Stp.refl _ _) hr sr, q, fun ds h1 vs H1 q1 s1 r1 x1 => ?_⟩
    obtain ⟨_, l', el, _, d, dr, e1, e, er, e2, f, fr, e3, q1⟩ := q1
    cases el
    subst e1
    subst e2
    subst e3
    obtain ⟨en, q1⟩ := q1
    subst en
    unfold VRs at x1
    obtain ⟨v1, r1', rfl, y1, x1⟩ := x1
    unfold VRs at x1
    obtain ⟨v2, r2', rfl, y2, x1⟩ := x1
    unfold VRs at x1
    obtain ⟨v3, r3', rfl, y3, x1⟩ := x1
    unfold VRs at x1
    subst x1
    exact ⟨v1, v2, v3, rfl, k.nx _ _ _ _ q1 s1 r1 ((((sr.stp hr s1).set i y1).set j y2).set l y3)⟩
/-- {0: True} -/
theorem de_dlit1 {k v : Expr} {pos : Pos} {i : Int} {d : Dm.D} {dv : V} (hk : PE X k (L2.tC (.int i))) (hv : PE X v (L2.tC dv)) (xd : ∀ H h, VR (gOf X cm hidn) H h d dv) : PE X (.Dict [some k] [v] pos) (LE (gOf X cm hidn) ac (Dm.eDlit [(.int i, d)])) :=
  (pe_disp (pps_cons hk hv pps_nil) rfl rfl (by simp) (by simp)).imp fun σ H Q ⟨s, h, E, P, sr, hr, hac, q, k⟩ p n => by
    refine ⟨upd_same, [(.inl i, dv)], rfl, by simp, ?_⟩
    have e : upd (upd H p (.dK [])) p (.dK (mergeK [] [(.inl i, dv)])) = upd H p (.dK [(.inl i, dv)]) := by
      funext a
      unfold upd
      by_cases q : a = p
      · simp [q, mergeK, putK]
      · simp [q]
    rw [e]
    refine k _ _ _ _ (q p (hr.off n)) (Stp.newUp n) (hr.newUp n ⟨[(.inl i, dv)], upd_same, by rw [sizeLine_eq]; simp, ?_⟩) xR
    unfold ER
    exact ⟨.inl i, dv, [], rfl, rfl, xd _ _, by unfold ER; rfl⟩
end
end Dr
end S_DLc
section S_DDef
set_option Elab.async false
set_option linter.all false
set_option maxRecDepth 100000
set_option maxHeartbeats 1000000
/-! DDef: a def keeps its promise; the law's end. -/
namespace Dr
open PySem PySem.Spec PyProof.Rows L2
section
variable {P : Program} {w : World} {K : PySem.W.Frag} {mg : Str → Option Value} {base : Heap} {x qual : Str} {params : Arguments} {body : List Stmt} {scope : Scope} {f : Addr} {fd : FuncData} {cm : CM}
abbrev gK (K : PySem.W.Frag) (P : Program) (w : World) (cm : CM) : Gd := ⟨K, P, w, cm, hdn0⟩
/-- a def that lets no exception out -/
theorem dfn {N ps : List Str} {k : Nat} {t : Dm.TS} {sp : Dm.Sp} (F : FunD K x qual params body scope [] [] f fd) (S : FnScope N ps scope) (hlen : ∀ ds h E Q, sp ds h E Q → ds.length = ps.length)
    (nx : ∀ ds h E Q, sp ds h E Q → sp ds h (fun _ _ => False) Q) (kp : ∀ ds h Q, sp ds h (fun _ _ => False) Q → t (Dm.endOf (fun _ _ => False) Q) (Dm.dstart N.length ds) h)
    (der : ∀ (hidn : Hdn) (cdv : Value) (A : Around) (outer : List Env) (s : Shared) (H : Hp) (E : XK), Room k (A.deeper (envOfC qual scope s.heap.objs.size f cdv)) →
      PSs (cxOf CX0 P w K mg base N qual scope f cdv A outer s H E).nox body (LS (gOf (cxOf CX0 P w K mg base N qual scope f cdv A outer s H E).nox cm hidn) acc0 t)) :
    FnOk P w K mg base CX0 (k + 1) f fd ps (LSp (gK K P w cm) sp) := by
  refine F.ok S (fun vs H Q E ⟨hidn, ds, h, PE, P', xs, _, q, _⟩ => by rw [xs.len]; exact hlen _ _ _ _ q) fun cdv A outer s H vs Q E hr ⟨hidn, ds, h, PE, P', xs, r, q, k, _⟩ => ?_
  refine ⟨_, PSs.nox (der hidn cdv A outer s H E hr), Dm.dstart N.length ds, h, Dm.endOf (fun _ _ => False) P', SR.start rfl xs, r, kp _ _ _ (nx _ _ _ _ q), ?_⟩
  refine ⟨fun s' h' σ' H' q s r sr => ?_, fun _ _ _ _ q => q.elim, fun _ _ _ _ q => q.elim, fun d h' v H' q s r x => ?_, fun _ _ _ _ _ _ _ e z ⟨_, _, q⟩ => q⟩
  · obtain ⟨h0, sb, q⟩ := q
    exact k _ _ _ _ q (s.trans (Stp.sub sb)) (r.sub sb) xN
  · obtain ⟨h0, sb, q⟩ := q
    exact k _ _ _ _ q (s.trans (Stp.sub sb)) (r.sub sb) (VR.stp r (Stp.sub sb) d v x)
/-- a def by its own body's meaning -/
theorem dfi {N ps : List Str} {k : Nat} {t : Dm.TS} (F : FunD K x qual params body scope [] [] f fd) (S : FnScope N ps scope)
    (der : ∀ (hidn : Hdn) (cdv : Value) (A : Around) (outer : List Env) (s : Shared) (H : Hp) (E : XK), Room k (A.deeper (envOfC qual scope s.heap.objs.size f cdv)) →
      PSs (cxOf CX0 P w K mg base N qual scope f cdv A outer s H E).nox body (LS (gOf (cxOf CX0 P w K mg base N qual scope f cdv A outer s H E).nox cm hidn) acc0 t)) :
    FnOk P w K mg base CX0 (k + 1) f fd ps (LSp (gK K P w cm) (Dm.inl ps.length N.length t)) := dfn F S (fun _ _ _ _ q => q.1) (fun _ _ _ _ q => q) (fun _ _ _ q => q.2) der
/-- a block's scope, seen -/
def blkB (N : List Str) (sc scope : Scope) (own : List (Str × Nat)) : Bool := decide (scope.kind = .function) && (scope.names.all fun y => decide (scope.names.lookup y.1 = some y.2)) && (own.all fun p => decide (N[p.2]? = some p.1)) &&
  (scope.names.all fun y => !decide (y.2 = .free) || (decide (sc.names.lookup y.1 = some .cell) || decide (sc.names.lookup y.1 = some .free))) && (scope.names.all fun y => !(decide (y.2 = .local) || decide (y.2 = .cell)) || (decide (y.1 ∈ own.map (·.1)) || !decide (y.1 ∈ N)))
theorem blk_ok {N : List Str} {sc scope : Scope} {own : List (Str × Nat)} (h : blkB N sc scope own = true) : BlkOk N sc scope own := by
  unfold blkB at h
  simp only [Bool.and_eq_true, List.all_eq_true, decide_eq_true_iff, Bool.or_eq_true, Bool.not_eq_true', decide_eq_false_iff_not] at h
  obtain ⟨⟨⟨⟨h1, h2⟩, h3⟩, h4⟩, h5⟩ := h
  exact ⟨h1, h2, h3, fun y hy e => (h4 y hy).resolve_left fun z => z e, fun y hy e => (h5 y hy).resolve_left fun z => by
    rcases e with e | e <;> rw [e] at z <;> simp at z⟩
theorem fd_uniq {K : PySem.W.Frag} {x qual x' qual' : Str} {params params' : Arguments} {body body' : List Stmt} {scope scope' : Scope} {dvs dvs' : List V} {kws kws' : List (Str × V)} {f : Addr} {fd fd' : FuncData} (F : FunD K x qual params body scope dvs kws f fd) (F' : FunD K x' qual' params' body' scope' dvs' kws' f fd') : fd = fd' := by
  obtain ⟨oc, od, dV, kV, doc, pm, an, cdv, ct, osl, rfl, lk, _⟩ := F.ex
  obtain ⟨oc', od', dV', kV', doc', pm', an', cdv', ct', osl', rfl, lk', _⟩ := F'.ex
  rw [lk] at lk'
  have e := Option.some.inj lk'
  injection e with e1 e2 e3 e4
  injection e3
theorem fn_spec {n : Nat} {ps : List Str} {CX : CXT} {sp sp' : Dm.Sp} {g : Gd} (F : FnOk P w K mg base CX n f fd ps (LSp g sp)) (h : ∀ ds hh E Q, sp' ds hh E Q → sp ds hh E Q) : FnOk P w K mg base CX n f fd ps (LSp g sp') :=
  F.imp fun vs H Q E ⟨hidn, ds, hh, PE, P', a, b, q, c⟩ => ⟨hidn, ds, hh, PE, P', a, b, h _ _ _ _ q, c⟩
theorem fn_zero {n : Nat} {ps : List Str} {CX : CXT} {sp : Dm.Sp} {g : Gd} (h : ∀ ds hh E Q, ¬ sp ds hh E Q) : FnOk P w K mg base CX n f fd ps (LSp g sp) :=
  ⟨fun vs H Q E ⟨_, _, _, _, _, _, _, q, _⟩ => (h _ _ _ _ q).elim, fun A outer s H args us vs Q E hr he hb hv ⟨_, _, _, _, _, _, _, q, _⟩ => (h _ _ _ _ q).elim⟩
/-- the law's entry: cs, the code objects and their tables -/
theorem law_sp {cs : List (Addr × Addr)} {q : Str} {H : Hp} {a : Addr} {ns : List Int} (hl : ns.length ≤ 63) (hc : cm.tabs = cs.map fun p => (p.2, q)) (ht : ∀ p ∈ cs, H p.2 = some (.tbl #[])) (hs : SqL K H a (ns.map V.int)) :
    LSp (gK K P w cm) Dm.spLaw [.ref a] H (fun v _ => v = .bl true) fun _ _ _ => False := by
  refine ⟨hdn0, [.scr (ns.map .int)], fun _ => none, fun _ _ => False, fun d _ => d = .bl true, ?_, ⟨fun a o (e : (none : Option Dm.HObj) = some o) => (nomatch e), fun a (z : False) => z.elim, fun p hp => ?_⟩, ⟨ns, rfl, hl, rfl, fun _ => rfl⟩, fun d h' v H' q _ _ x => ?_, fun _ _ _ _ _ q => q.elim⟩
  · refine .cons ?_ .nil
    unfold VR
    exact ⟨a, ns.map V.int, rfl, ScR.of hs (fun z => z) rfl, by rw [List.length_map, sizeLine_eq]; omega, ints_vr ns⟩
  · have hp' : p ∈ cm.tabs := hp
    rw [hc] at hp'
    obtain ⟨r, hr, rfl⟩ := List.mem_map.mp hp'
    refine ⟨rfl, fun z => z, #[], ht r hr, True.intro, fun pos cv z => ?_⟩
    have z' : codeAmong pos [] = some cv := z
    simp [codeAmong] at z'
  · subst q
    exact vB x
end
end Dr
end S_DDef
section S_DSp
set_option linter.all false
set_option maxRecDepth 100000
/-! DSp: promises of defs that call themselves. -/
namespace G
open Dm
mutual
/-- data that may be compared: not deeper than n, lists not too long -/
def likeOk : Nat → D → Bool
  | _, .non => true
  | _, .bl _ => true
  | _, .int _ => true
  | _, .str x => plain 50 (.str x)
  | n + 1, .tup l => decide (l.length ≤ 1000000) && likeOkL n l
  | n + 1, .lst l => decide (l.length ≤ 1000000) && likeOkL n l
  | _, _ => false
def likeOkL : Nat → List D → Bool
  | _, [] => true
  | n, d :: l => likeOk n d && likeOkL n l
end
/-- _law_like of one thing and itself -/
def rec__law_like : Nat → Sp
  | 0 => fun _ _ _ _ => False
  | n + 1 => fun ds h _ Q => ∃ a, ds = [a, a] ∧ likeOk n a = true ∧ Q (.bl true) h
def sp__law_like : Sp := rec__law_like 8
theorem rec0__law_like : ∀ ds h E Q, ¬ rec__law_like 0 ds h E Q := fun _ _ _ _ q => q
theorem len__law_like : ∀ n ds h E Q, rec__law_like n ds h E Q → ds.length = 2
  | 0, _, _, _, _, q => q.elim
  | n + 1, _, _, _, _, ⟨a, e, _⟩ => by rw [e]; rfl
theorem nx__law_like : ∀ n ds h E Q, rec__law_like n ds h E Q → rec__law_like n ds h (fun _ _ => False) Q
  | 0, _, _, _, _, q => q
  | _ + 1, _, _, _, _, q => q
end G
end S_DSp
section S_DLem
set_option linter.all false
set_option maxRecDepth 100000
/-! DLem: the transformers seen by simp; rules for loops. -/
namespace Dm
section
variable (s : St) (h : Hd) (E : XP) (Q : QP) (P : En)
@[simp] theorem w_seq (a b : TS) : sSeq a b P s h = a { P with nx := b P } s h := propext ⟨id, id⟩
@[simp] theorem w_next : sNext P s h = P.nx s h := propext ⟨id, id⟩
@[simp] theorem w_never : sNever P s h = False := propext ⟨id, id⟩
@[simp] theorem w_expr (e : TE) : sExpr e P s h = e s h (fun x h' => P.ex x s h') (fun _ h1 => P.nx s h1) := propext ⟨id, id⟩
@[simp] theorem w_ret (e : TE) : sRet e P s h = e s h (fun x h' => P.ex x s h') P.rt := propext ⟨id, id⟩
@[simp] theorem w_retN : sRetN P s h = P.rt .non h := propext ⟨id, id⟩
@[simp] theorem w_if (t : TT) (a b : TS) : sIf t a b P s h = t s h (fun x h' => P.ex x s h') (fun c h1 => if c = true then a P s h1 else b P s h1) := propext ⟨id, id⟩
@[simp] theorem w_asg (e : TE) (g : TG) : sAsg e g P s h = e s h (fun x h' => P.ex x s h') (fun d h1 => g d s h1 (fun x h' => ∀ s', P.ex x s' h') P.nx) := propext ⟨id, id⟩
@[simp] theorem w_break : sBreak P s h = P.bk s h := propext ⟨id, id⟩
@[simp] theorem w_cont : sCont P s h = P.ct s h := propext ⟨id, id⟩
@[simp] theorem w_for (it : TI) (g : TG) (b : TS) : sFor it g b P s h = it s h (fun x h' => P.ex x s h') (fun l ok h1 => forL ok g b P l s h1) := propext ⟨id, id⟩
@[simp] theorem w_frz (i : Nat) : sFrz i P s h = ∃ p l, s[i]? = some (some (.ref p)) ∧ h p = some (.lst l) ∧ P.nx (s.set i (some (.lst l))) (rm h p) := propext ⟨id, id⟩
@[simp] theorem w_fld (c : String) (o : TE) (f : String) (e : TE) : sFld c o f e P s h = e s h (fun x h' => P.ex x s h') (fun d h1 => o s h1 (fun x h' => P.ex x s h') fun x h2 =>
  ∃ p fs, x = .ref p ∧ h2 p = some (.ins c fs) ∧ fs.length < 1000 ∧ P.nx s (up h2 p (.ins c (putF f d fs)))) := propext ⟨id, id⟩
@[simp] theorem w_var (i : Nat) : eVar i s h E Q = ∃ d, s[i]? = some (some d) ∧ Q d h := propext ⟨id, id⟩
@[simp] theorem w_c (d : D) : eC d s h E Q = Q d h := propext ⟨id, id⟩
@[simp] theorem w_bin (f : D → D → Hd → QP → Prop) (a b : TE) : eBin f a b s h E Q = a s h E (fun x h1 => b s h1 E fun y h2 => f x y h2 Q) := propext ⟨id, id⟩
@[simp] theorem w_un (f : D → Hd → QP → Prop) (a : TE) : eUn f a s h E Q = a s h E (fun x h1 => f x h1 Q) := propext ⟨id, id⟩
@[simp] theorem w_eAnd (a b : TE) : eAnd a b s h E Q = a s h E (fun x h1 => ∃ c, x = .bl c ∧ if c = true then b s h1 E Q else Q (.bl false) h1) := propext ⟨id, id⟩
@[simp] theorem w_eOr (a b : TE) : eOr a b s h E Q = a s h E (fun x h1 => ∃ c, x = .bl c ∧ if c = true then Q (.bl true) h1 else b s h1 E Q) := propext ⟨id, id⟩
@[simp] theorem w_eNot (a : TE) : eNot a s h E Q = a s h E (fun x h1 => ∃ c, x = .bl c ∧ Q (.bl (!c)) h1) := propext ⟨id, id⟩
@[simp] theorem w_eIf (t : TT) (a b : TE) : eIf t a b s h E Q = t s h E (fun c h1 => if c = true then a s h1 E Q else b s h1 E Q) := propext ⟨id, id⟩
@[simp] theorem w_chain (f g : D → D → Hd → QP → Prop) (a b c : TE) : eChain f g a b c s h E Q = a s h E (fun x h1 => b s h1 E fun y h2 => f x y h2 fun z h3 => ∃ k, z = .bl k ∧ if k = true then c s h3 E (fun w h4 => g y w h4 Q) else Q (.bl false) h3) := propext ⟨id, id⟩
@[simp] theorem w_tE (a : TE) (R : Bool → Hd → Prop) : tE a s h E R = a s h E (fun x h1 => ∃ b, x = .bl b ∧ R b h1) := propext ⟨id, id⟩
@[simp] theorem w_tAnd (a b : TT) (R : Bool → Hd → Prop) : tAnd a b s h E R = a s h E (fun c h1 => if c = true then b s h1 E R else R false h1) := propext ⟨id, id⟩
@[simp] theorem w_tOr (a b : TT) (R : Bool → Hd → Prop) : tOr a b s h E R = a s h E (fun c h1 => if c = true then R true h1 else b s h1 E R) := propext ⟨id, id⟩
@[simp] theorem w_tNot (a : TT) (R : Bool → Hd → Prop) : tNot a s h E R = a s h E (fun c h1 => R (!c) h1) := propext ⟨id, id⟩
@[simp] theorem w_tYes (R : Bool → Hd → Prop) : tYes s h E R = R true h := propext ⟨id, id⟩
@[simp] theorem w_aNil (R : List D → Hd → Prop) : aNil s h E R = R [] h := propext ⟨id, id⟩
@[simp] theorem w_aCons (a : TE) (r : TA) (R : List D → Hd → Prop) : aCons a r s h E R = a s h E (fun x h1 => r s h1 E fun xs h2 => R (x :: xs) h2) := propext ⟨id, id⟩
@[simp] theorem w_tup (a : TA) : eTup a s h E Q = a s h E (fun xs h1 => xs.length ≤ lim ∧ Q (.tup xs) h1) := propext ⟨id, id⟩
@[simp] theorem w_lst (a : TA) : eLst a s h E Q = a s h E (fun xs h1 => xs.length ≤ lim ∧ Q (.lst xs) h1) := propext ⟨id, id⟩
@[simp] theorem w_lstH (a : TA) : eLstH a s h E Q = a s h E (fun xs h1 => xs.length ≤ lim ∧ ∀ p, h1 p = none → Q (.ref p) (up h1 p (.lst xs))) := propext ⟨id, id⟩
@[simp] theorem w_dnew (t : Bool) : eDnew t s h E Q = ∀ p, h p = none → Q (.ref p) (up h p (.dct t [])) := propext ⟨id, id⟩
@[simp] theorem w_dlit (l : List (D × D)) : eDlit l s h E Q = ∀ p, h p = none → Q (.ref p) (up h p (.dct false l)) := propext ⟨id, id⟩
@[simp] theorem w_fldE (c : String) (a : TE) (f : String) : eFld c a f s h E Q = a s h E (fun x h1 => ∃ p fs v, x = .ref p ∧ h1 p = some (.ins c fs) ∧ lkF f fs = some v ∧ Q v h1) := propext ⟨id, id⟩
@[simp] theorem w_call (sp : Sp) (a : TA) : eCall sp a s h E Q = a s h E (fun xs h1 => sp xs h1 E Q) := propext ⟨id, id⟩
@[simp] theorem w_meth (c m : String) (sp : Sp) (o : TE) (a : TA) : eMeth c m sp o a s h E Q = o s h E (fun x h1 => ∃ p fs, x = .ref p ∧ h1 p = some (.ins c fs) ∧ lkF m fs = none ∧ a s h1 E fun xs h2 => sp (x :: xs) h2 E Q) := propext ⟨id, id⟩
@[simp] theorem w_make (c : String) (sp : Sp) (a : TA) : eMake c sp a s h E Q = a s h E (fun xs h1 => ∀ p, h1 p = none → sp (.ref p :: xs) (up h1 p (.ins c [])) E fun v h2 => v = .non ∧ Q (.ref p) h2) := propext ⟨id, id⟩
@[simp] theorem w_B (r : List D → Hd → QP → Prop) (a : TA) : eB r a s h E Q = a s h E (fun xs h1 => r xs h1 Q) := propext ⟨id, id⟩
@[simp] theorem w_M (ty : D → Hd → Prop) (r : D → List D → Hd → QP → Prop) (o : TE) (a : TA) : eM ty r o a s h E Q = o s h E (fun x h1 => ty x h1 ∧ a s h1 E fun xs h2 => r x xs h2 Q) := propext ⟨id, id⟩
@[simp] theorem w_eLc (it : TI) (g : TG) (t : TT) (e : TE) (vs : List Nat) : eLc it g t e vs s h E Q = it s h E (fun l ok h1 => lcL ok g t e (wipe s vs) (fun ys h2 => Q (.lst ys) h2) l [] h1) := propext ⟨id, id⟩
@[simp] theorem w_eLcH (it : TI) (g : TG) (t : TT) (e : TE) (vs : List Nat) : eLcH it g t e vs s h E Q = it s h E (fun l ok h1 => lcL ok g t e (wipe s vs) (fun ys h2 => ∀ p, h2 p = none → Q (.ref p) (up h2 p (.lst ys))) l [] h1) := propext ⟨id, id⟩
@[simp] theorem w_gN (i : Nat) (d : D) (R : St → Hd → Prop) : gN i d s h E R = R (s.set i (some d)) h := propext ⟨id, id⟩
@[simp] theorem w_gNil (R : St → Hd → Prop) : gNil [] s h E R ↔ R s h := ⟨fun z => z.2, fun z => ⟨rfl, z⟩⟩
@[simp] theorem w_gCons (g : TG) (r : TGs) (d : D) (ds : List D) (R : St → Hd → Prop) : gCons g r (d :: ds) s h E R ↔ g d s h E fun s1 h1 => r ds s1 h1 E R := by
  constructor
  · rintro ⟨d', ds', e, q⟩
    cases e
    exact q
  · exact fun q => ⟨d, ds, rfl, q⟩
@[simp] theorem w_gTup (n : Nat) (r : TGs) (l : List D) (R : St → Hd → Prop) : gTup n r (.tup l) s h E R ↔ l.length = n ∧ r l s h E R := by
  constructor
  · rintro ⟨l', e, q⟩
    cases e
    exact q
  · exact fun q => ⟨l, rfl, q⟩
@[simp] theorem w_gDst (o k : TE) (d : D) (R : St → Hd → Prop) : gDst o k d s h E R = o s h E (fun x h1 => k s h1 E fun y h2 => ∃ p t l, x = .ref p ∧ h2 p = some (.dct t l) ∧ keyOk t y = true ∧ l.length < lim ∧ R s (up h2 p (.dct t (putD y d l)))) := propext ⟨id, id⟩
@[simp] theorem w_gLst (o k : TE) (d : D) (R : St → Hd → Prop) : gLst o k d s h E R = o s h E (fun x h1 => k s h1 E fun y h2 => ∃ p l i, x = .ref p ∧ h2 p = some (.lst l) ∧ y = .int i ∧ ixOk l.length i ∧ R s (up h2 p (.lst (l.set (ixP l.length i) d)))) := propext ⟨id, id⟩
@[simp] theorem w_iSeqT (a : TE) (R : List D → (Hd → Prop) → Hd → Prop) : iSeq a s h E R = a s h E (fun x h1 => match x with
  | .tup l => R l (fun _ => True) h1
  | .lst l => R l (fun _ => True) h1
  | .scr l => R l (fun _ => True) h1
  | .ref p => ∃ l, h1 p = some (.lst l) ∧ R l (fun h' => h' p = some (.lst l)) h1
  | _ => False) := propext ⟨id, id⟩
@[simp] theorem w_iRng1 (a : TE) (R : List D → (Hd → Prop) → Hd → Prop) : iRng1 a s h E R = a s h E (fun x h1 => ∃ j, x = D.int j ∧ (-(2 ^ 62) ≤ j ∧ j ≤ 1000000) ∧ R (rngD 0 j.toNat) (fun _ => True) h1) := propext ⟨id, id⟩
@[simp] theorem w_iRng2 (a b : TE) (R : List D → (Hd → Prop) → Hd → Prop) : iRng2 a b s h E R = a s h E (fun x h1 => b s h1 E fun y h2 => ∃ i j, x = .int i ∧ y = .int j ∧ (-(2 ^ 62) ≤ i ∧ i ≤ 1000000 ∧ -(2 ^ 62) ≤ j ∧ j ≤ 1000000 ∧ j - i ≤ 1000000) ∧ R (rngD i (j - i).toNat) (fun _ => True) h2) := propext ⟨id, id⟩
@[simp] theorem w_iEnum (a : TE) (R : List D → (Hd → Prop) → Hd → Prop) : iEnum a s h E R = a s h E (fun x h1 => match x with
  | .tup l => R (enumD 0 l) (fun _ => True) h1
  | .lst l => R (enumD 0 l) (fun _ => True) h1
  | .ref p => ∃ l, h1 p = some (.lst l) ∧ R (enumD 0 l) (fun h' => h' p = some (.lst l)) h1
  | _ => False) := propext ⟨id, id⟩
@[simp] theorem w_iZip (a b : TE) (R : List D → (Hd → Prop) → Hd → Prop) : iZip a b s h E R = a s h E (fun x h1 => b s h1 E fun y h2 => ∃ l m, x = .tup l ∧ y = .tup m ∧ R (zipD l m) (fun _ => True) h2) := propext ⟨id, id⟩
end
/-- a def's end: what the body leaves beside is dropped -/
theorem endOf_rt {E : XP} {Q : QP} {d : D} {h0 h : Hd} (q : Q d h0) (sb : Sub h0 h) : (endOf E Q).rt d h := ⟨h0, sb, q⟩
@[simp] theorem endOf_rt_eq {E : XP} {Q : QP} : (endOf E Q).rt = fun d h' => ∃ h0, Sub h0 h' ∧ Q d h0 := rfl
@[simp] theorem endOf_nx_eq {E : XP} {Q : QP} : (endOf E Q).nx = fun _ h' => ∃ h0, Sub h0 h' ∧ Q .non h0 := rfl
/-- a for's rule: I says what holds when r is still to be walked -/
theorem forL_ind {ok : Hd → Prop} {g : TG} {b : TS} {P : En} (I : List D → St → Hd → Prop)
    (hs : ∀ d r s h (K : St → Hd → Prop), (∀ s3 h3, I r s3 h3 → K s3 h3) → I (d :: r) s h → g d s h (fun x h' => ∀ s', P.ex x s' h') fun s2 h2 => b { P with nx := fun s3 h3 => ok h3 ∧ K s3 h3, ct := fun s3 h3 => ok h3 ∧ K s3 h3, bk := P.nx } s2 h2)
    (hd : ∀ s h, I [] s h → P.nx s h) : ∀ (l : List D) (s : St) (h : Hd), I l s h → forL ok g b P l s h
  | [], s, h, i => hd s h i
  | d :: r, s, h, i => hs d r s h _ (fun s3 h3 i3 => forL_ind I hs hd r s3 h3 i3) i
/-- a while's rule -/
theorem while_ind {t : TT} {b : TS} {P : En} (I : Nat → St → Hd → Prop)
    (hs : ∀ n s h (K : St → Hd → Prop), (∀ m s' h', m < n → I m s' h' → K s' h') → I n s h → t s h (fun x h' => P.ex x s h') fun c h1 => if c = true then b { P with nx := K, ct := K, bk := P.nx } s h1 else P.nx s h1)
    {n : Nat} {s : St} {h : Hd} (i : I n s h) : sWhile t b P s h := by
  refine ⟨n + 1, ?_⟩
  have go : ∀ k m s h, m < k → I m s h → whN t b P k s h := by
    intro k
    induction k with
    | zero => intro m s h hm; exact absurd hm (Nat.not_lt_zero _)
    | succ k ih =>
      intro m s h hm im
      exact hs m s h _ (fun m' s' h' hlt im' => ih m' s' h' (by omega) im') im
  exact go (n + 1) n s h (Nat.lt_succ_self _) i
/-- a list comprehension's rule -/
theorem lcL_ind {ok : Hd → Prop} {g : TG} {t : TT} {e : TE} {s : St} {Q : List D → Hd → Prop} (I : List D → List D → Hd → Prop)
    (hs : ∀ d r acc h (K : List D → Hd → Prop), (∀ acc' h', I r acc' h' → K acc' h') → I (d :: r) acc h → g d s h (fun _ _ => False) fun s2 h2 => t s2 h2 (fun _ _ => False) fun b h3 =>
      if b = true then e s2 h3 (fun _ _ => False) fun y h4 => ok h4 ∧ K (acc ++ [y]) h4 else ok h3 ∧ K acc h3)
    (hd : ∀ acc h, I [] acc h → Q acc h) : ∀ (l acc : List D) (h : Hd), I l acc h → lcL ok g t e s Q l acc h
  | [], acc, h, i => hd acc h i
  | d :: r, acc, h, i => hs d r acc h (fun a h' => lcL ok g t e s Q r a h') (fun a h' i' => lcL_ind I hs hd r a h' i') i
/-- a pure one: f says what is made of an item -/
theorem lcL_pure {ok : Hd → Prop} {g : TG} {t : TT} {e : TE} {s : St} {Q : List D → Hd → Prop} {h : Hd} (f : D → Option D) (l : List D) (hok : ok h)
    (hs : ∀ d ∈ l, ∀ (Y : D → Hd → Prop) (N : Hd → Prop), (∀ y, f d = some y → Y y h) → (f d = none → N h) → g d s h (fun _ _ => False) fun s2 h2 => t s2 h2 (fun _ _ => False) fun b h3 => if b = true then e s2 h3 (fun _ _ => False) (fun y h4 => Y y h4) else N h3)
    (hq : Q (l.filterMap f) h) : lcL ok g t e s Q l [] h := by
  have go : ∀ (l' acc : List D), (∀ d ∈ l', d ∈ l) → Q (acc ++ l'.filterMap f) h → lcL ok g t e s Q l' acc h := by
    intro l'
    induction l' with
    | nil => intro acc _ q; simpa [lcL] using q
    | cons d r ih =>
      intro acc hm q
      refine hs d (hm d List.mem_cons_self) (fun y h4 => ok h4 ∧ lcL ok g t e s Q r (acc ++ [y]) h4) (fun h3 => ok h3 ∧ lcL ok g t e s Q r acc h3) (fun y hf => ⟨hok, ?_⟩) (fun hf => ⟨hok, ?_⟩)
      · exact ih (acc ++ [y]) (fun x hx => hm x (List.mem_cons_of_mem _ hx)) (by simpa [hf] using q)
      · exact ih acc (fun x hx => hm x (List.mem_cons_of_mem _ hx)) (by simpa [hf] using q)
  exact go l [] (fun _ z => z) (by simpa using hq)
end Dm
end S_DLem
section S_DX
set_option linter.all false
set_option maxRecDepth 100000
/-! DX: more transformers: lists of the heap made by + and *. -/
namespace Dm
/-- x + y, a new list of the heap -/
def oCatH (x y : D) (h : Hd) (Q : QP) : Prop := ∃ a b, sqL h x = some a ∧ sqL h y = some b ∧ a.length + b.length ≤ lim ∧ ∀ p, h p = none → Q (.ref p) (up h p (.lst (a ++ b)))
/-- x * n, a new list of the heap -/
def oRepH : D → D → Hd → QP → Prop
  | .lst l, .int k, h, Q => k ≤ 1000 ∧ l.length ≤ 1000 ∧ -(2 ^ 63) ≤ k ∧ ∀ p, h p = none → Q (.ref p) (up h p (.lst (List.replicate k.toNat l).flatten))
  | _, _, _, _ => False
end Dm
namespace Dm
/-- list(range(n)) -/
def eLstRg (a : TE) : TE := fun s h E Q => a s h E fun x h1 => ∃ n, x = D.int n ∧ -(2 ^ 62) ≤ n ∧ n ≤ 1000000 ∧ Q (.lst (rngD 0 n.toNat)) h1
@[simp] theorem w_lstRg (a : TE) (s : St) (h : Hd) (E : XP) (Q : QP) : eLstRg a s h E Q = a s h E (fun x h1 => ∃ n, x = D.int n ∧ -(2 ^ 62) ≤ n ∧ n ≤ 1000000 ∧ Q (.lst (rngD 0 n.toNat)) h1) := propext ⟨id, id⟩
end Dm
namespace Dm
/-- list(d) of a dict with int keys -/
def bListDI : List D → Hd → QP → Prop
  | [x], h, Q => ∃ l ns, dctAt h x = some (false, l) ∧ intsOf (l.map (·.1)) = some ns ∧ l.length ≤ lim ∧ Q (.lst (ns.map D.int)) h
  | _, _, _ => False
end Dm
end S_DX
section S_DY
set_option Elab.async false
set_option linter.all false
set_option maxRecDepth 100000
set_option maxHeartbeats 1000000
/-! DY: soundness of DX's transformers. -/
namespace Dr
open PySem PySem.Spec PyProof.Rows L2
section
variable {X : Cx} {cm : CM} {hidn : Hdn}
theorem dop_catH : OpR X (binaryOp .Add) (LO (gOf X cm hidn) Dm.oCatH) := by
  intro pins s σ H x y v u Q I rx ry ⟨d, e, h, P, xd, xe, hr, ⟨l, m, el, em, z, q⟩, k⟩
  obtain ⟨a, vs, ea, ha, la, xa⟩ := sqL_at hr xd el
  obtain ⟨b, us, eb, hb, lb, xb⟩ := sqL_at hr xe em
  have hl := lim_size
  exact op_cat pins s σ H _ _ v u Q I rx ry ⟨a, b, vs, us, ea, eb, ha, hb, by rw [xa.len, xb.len]; omega, fun p n => k.lstH hr q (xa.app xb) (by rw [List.length_append]; omega) n⟩
theorem dop_repH : OpR X (binaryOp .Mult) (LO (gOf X cm hidn) Dm.oRepH) := by
  intro pins s σ H x y v u Q I rx ry ⟨d, e, h, P, xd, xe, hr, q, k⟩
  cases d with
  | lst l =>
    cases e with
    | int n =>
      obtain ⟨a, vs, rfl, ha, _, la, xa⟩ := vL xd
      obtain rfl := vI xe
      obtain ⟨z1, z2, z3, q⟩ := q
      have a1 : l.length * n.toNat ≤ 1000 * 1000 := Nat.mul_le_mul z2 (by omega)
      refine op_rep pins s σ H _ _ v u Q I rx ry ⟨a, n, vs, rfl, rfl, ha, z3, by omega, ?_, fun p np => k.lstH hr q (xa.rep _) ?_ np⟩
      · rw [xa.len, sizeLine_eq]; omega
      · rw [len_rep, sizeLine_eq, Nat.mul_comm]; omega
    | _ => exact absurd q (by simp [Dm.oRepH])
  | _ => exact absurd q (by simp [Dm.oRepH])
theorem rngVR {g : Gd} {H : Hp} {h : Dm.Hd} : ∀ (l : List Nat), VRs g H h (l.map fun (k : Nat) => Dm.D.int (0 + (k : Nat))) (l.map fun (k : Nat) => V.int (0 + (k : Nat)))
  | [] => by unfold VRs; rfl
  | k :: l => by
    rw [List.map_cons, List.map_cons]
    unfold VRs
    exact ⟨_, _, rfl, xI, rngVR l⟩
theorem de_listRg {a : Expr} {p p2 pos pos2 : Pos} {t : Dm.TE} {ac : Acc} (hc : X.calm = true) (hg : Gl X (Str.ofString "list")) (hm : X.mg (Str.ofString "list") = none) (hg2 : Gl X (Str.ofString "range")) (hm2 : X.mg (Str.ofString "range") = none) (ha : PE X a (LE (gOf X cm hidn) ac t))
    (hs : starEach [a] X.env = (false, eval a X.env) :: starEach [] X.env := by rfl) (hs2 : starEach [Expr.Call (.Name (Str.ofString "range") p2) [a] [] pos2] X.env = (false, eval (Expr.Call (.Name (Str.ofString "range") p2) [a] [] pos2) X.env) :: starEach [] X.env := by rfl) :
    PE X (.Call (.Name (Str.ofString "list") p) [.Call (.Name (Str.ofString "range") p2) [a] [] pos2] [] pos) (LE (gOf X cm hidn) ac (Dm.eLstRg t)) :=
  (pe_listRg hc hg hm (prg_1 hg2 hm2 ha hs) hs2).imp fun σ H Q ⟨s, h, E, P, sr, hr, hac, q, k⟩ =>
    ⟨s, h, E, _, sr, hr, hac, q, fun d h1 v H1 ⟨n, ed, h1', h2', q1⟩ s1 r1 x1 => by
      subst ed
      obtain rfl := vI x1
      refine ⟨n, rfl, ⟨by decide, by decide, h1', by omega, by omega⟩, fun qq nq => ?_⟩
      have e0 : (n - 0).toNat = n.toNat := by rw [Int.sub_zero]
      have e : rgV 0 n = (List.range n.toNat).map fun (k : Nat) => V.int (0 + (k : Nat)) := by
        unfold rgV
        rw [e0]
      rw [e]
      refine (EndE.stp k s1).lst r1 q1 (rngVR _) ?_ nq
      unfold Dm.rngD
      rw [List.length_map, List.length_range, sizeLine_eq]
      omega⟩
theorem cb_listDI (hc : X.calm = true) : CallR X (.type "list") (LB (gOf X cm hidn) Dm.bListDI) := LB.one (call_list_dK hc) (one_of (fun _ _ q => q) fun _ _ _ _ _ q => q) fun d v h H P Q xv hr ⟨l, ns, e, en, hn, q⟩ k => by
  cases d with
  | ref a =>
    obtain rfl := vR xv
    unfold Dm.dctAt at e
    cases f : h a with
    | none => simp [f] at e
    | some o =>
      cases o with
      | dct t m =>
        simp [f] at e
        obtain ⟨rfl, rfl⟩ := e
        obtain ⟨es, e1, e2, e3⟩ := hr a _ f
        have ek := er_keys e3 en
        have hl : ns.length = m.length := by
          have := congrArg List.length ek
          rw [List.length_map, List.length_map, ER.len e3] at this
          exact this.symm
        refine ⟨a, es, rfl, e1, fun p hp => ?_⟩
        have e4 : (es.map fun kv => kV kv.1) = ns.map V.int := by
          have := congrArg (List.map kV) ek
          rw [List.map_map, List.map_map] at this
          exact this
        rw [e4]
        have hs := lim_size
        exact k.lst hr q (ints_vr ns) (by rw [List.length_map]; omega) hp
      | lst _ => simp [f] at e
      | ins _ _ => simp [f] at e
  | _ => simp [Dm.dctAt] at e
end
end Dr
end S_DY
section S_DX2
set_option linter.all false
set_option maxRecDepth 100000
/-! DX2: lists of the heap, frozen at any depth. -/
namespace Dm
mutual
/-- d' is d, with some lists of h as data; h' holds them no more -/
def FzR (h h' : Hd) : D → D → Prop
  | .lst l', d => d = .lst l' ∨ (∃ l, d = .lst l ∧ FzRs h h' l' l) ∨ ∃ a l, d = .ref a ∧ h a = some (.lst l) ∧ h' a = none ∧ FzRs h h' l' l
  | .tup l', d => d = .tup l' ∨ ∃ l, d = .tup l ∧ FzRs h h' l' l
  | .non, d => d = .non
  | .bl b, d => d = .bl b
  | .int i, d => d = .int i
  | .str x, d => d = .str x
  | .byt b, d => d = .byt b
  | .scr l, d => d = .scr l
  | .set l, d => d = .set l
  | .ref a, d => d = .ref a
  | .ty n, d => d = .ty n
  | .exc a b c ks l, d => d = .exc a b c ks l
  | .lam i, d => d = .lam i
  | .fn n, d => d = .fn n
  | .stp l, d => d = .stp l
  | .ktp l, d => d = .ktp l
def FzRs (h h' : Hd) : List D → List D → Prop
  | [], l => l = []
  | d' :: r', l => ∃ d r, l = d :: r ∧ FzR h h' d' d ∧ FzRs h h' r' r
end
theorem FzR.refl (h h' : Hd) (d : D) : FzR h h' d d := by
  cases d <;> unfold FzR <;> first | rfl | exact .inl rfl
theorem FzRs.refl (h h' : Hd) : ∀ l : List D, FzRs h h' l l
  | [] => by unfold FzRs; rfl
  | d :: l => by unfold FzRs; exact ⟨d, l, rfl, FzR.refl h h' d, FzRs.refl h h' l⟩
/-- e, its lists frozen -/
def eFrzD (e : TE) : TE := fun s h E Q => e s h E fun d h1 => ∃ d' h', FzR h1 h' d' d ∧ Sub h' h1 ∧ Q d' h'
@[simp] theorem w_frzD (e : TE) (s : St) (h : Hd) (E : XP) (Q : QP) : eFrzD e s h E Q = e s h E (fun d h1 => ∃ d' h', FzR h1 h' d' d ∧ Sub h' h1 ∧ Q d' h') := propext ⟨id, id⟩
/-- many places let go -/
def rms (h : Hd) (ps : List Nat) : Hd := fun b => if b ∈ ps then none else h b
theorem rms_sub (h : Hd) (ps : List Nat) : Sub (rms h ps) h := fun a o e => by
  unfold rms at e
  split at e
  · cases e
  · exact e
theorem rms_in {h : Hd} {ps : List Nat} {a : Nat} (e : a ∈ ps) : rms h ps a = none := by unfold rms; rw [if_pos e]
theorem rms_out {h : Hd} {ps : List Nat} {a : Nat} (e : a ∉ ps) : rms h ps a = h a := by unfold rms; rw [if_neg e]
theorem fz_refs {h h' : Hd} : ∀ {qs : List Nat} {ls : List (List D)}, qs.length = ls.length → (∀ (i : Nat) (q : Nat) (l : List D), qs[i]? = some q → ls[i]? = some l → h q = some (.lst l) ∧ h' q = none) → FzRs h h' (ls.map D.lst) (qs.map D.ref)
  | [], [], _, _ => by unfold FzRs; rfl
  | [], _ :: _, e, _ => by simp at e
  | _ :: _, [], e, _ => by simp at e
  | q :: qs, l :: ls, e, k => by
    rw [List.map_cons, List.map_cons]
    unfold FzRs
    obtain ⟨h1, h2⟩ := k 0 q l rfl rfl
    refine ⟨.ref q, qs.map D.ref, rfl, ?_, fz_refs (by simpa using e) fun i q l a b => k (i + 1) q l (by simpa using a) (by simpa using b)⟩
    unfold FzR
    exact .inr (.inr ⟨q, l, rfl, h1, h2, FzRs.refl _ _ _⟩)
end Dm
end S_DX2
section S_DY2
set_option Elab.async false
set_option linter.all false
set_option maxRecDepth 100000
set_option maxHeartbeats 1000000
/-! DY2: soundness of DX2's transformers. -/
namespace Dr
open PySem PySem.Spec PyProof.Rows L2
section
variable {g : Gd} {H : Hp} {h h' : Dm.Hd}
mutual
theorem VR.fz (r : HR g H h) (sb : Dm.Sub h' h) : ∀ (d' d : Dm.D) (v : V), Dm.FzR h h' d' d → VR g H h d v → VR g H h' d' v
  | .lst l', d, v, f, x => by
    unfold Dm.FzR at f
    rcases f with rfl | ⟨l, rfl, f⟩ | ⟨a, l, rfl, e1, e2, f⟩
    · exact VR.stp r (Stp.sub sb) _ v x
    · unfold VR at x ⊢
      obtain ⟨a, vs, rfl, n, ha, na, ln, xs⟩ := x
      have y := VRs.fz r sb l' l vs f xs
      refine ⟨a, vs, rfl, n, ha, ?_, by rw [← y.len, xs.len]; exact ln, y⟩
      cases q : h' a with
      | none => rfl
      | some o => rw [sb a o q] at na; cases na
    · obtain rfl := vR x
      obtain ⟨vs, h1, h2, h3⟩ := r a _ e1
      have y := VRs.fz r sb l' l vs f h3
      unfold VR
      exact ⟨a, vs, rfl, r.nh2 e1, h1, e2, by rw [← y.len, h3.len]; exact h2, y⟩
  | .tup l', d, v, f, x => by
    unfold Dm.FzR at f
    rcases f with rfl | ⟨l, rfl, f⟩
    · exact VR.stp r (Stp.sub sb) _ v x
    · unfold VR at x ⊢
      obtain ⟨a, vs, rfl, n, ha, ln, xs⟩ := x
      have y := VRs.fz r sb l' l vs f xs
      exact ⟨a, vs, rfl, n, ha, by rw [← y.len, xs.len]; exact ln, y⟩
  | .non, d, v, f, x => by unfold Dm.FzR at f; subst f; exact VR.stp r (Stp.sub sb) _ v x
  | .bl _, d, v, f, x => by unfold Dm.FzR at f; subst f; exact VR.stp r (Stp.sub sb) _ v x
  | .int _, d, v, f, x => by unfold Dm.FzR at f; subst f; exact VR.stp r (Stp.sub sb) _ v x
  | .str _, d, v, f, x => by unfold Dm.FzR at f; subst f; exact VR.stp r (Stp.sub sb) _ v x
  | .byt _, d, v, f, x => by unfold Dm.FzR at f; subst f; exact VR.stp r (Stp.sub sb) _ v x
  | .scr _, d, v, f, x => by unfold Dm.FzR at f; subst f; exact VR.stp r (Stp.sub sb) _ v x
  | .set _, d, v, f, x => by unfold Dm.FzR at f; subst f; exact VR.stp r (Stp.sub sb) _ v x
  | .ref _, d, v, f, x => by unfold Dm.FzR at f; subst f; exact VR.stp r (Stp.sub sb) _ v x
  | .ty _, d, v, f, x => by unfold Dm.FzR at f; subst f; exact VR.stp r (Stp.sub sb) _ v x
  | .exc _ _ _ _ _, d, v, f, x => by unfold Dm.FzR at f; subst f; exact VR.stp r (Stp.sub sb) _ v x
  | .lam _, d, v, f, x => by unfold Dm.FzR at f; subst f; exact VR.stp r (Stp.sub sb) _ v x
  | .fn _, d, v, f, x => by unfold Dm.FzR at f; subst f; exact VR.stp r (Stp.sub sb) _ v x
  | .stp _, d, v, f, x => by unfold Dm.FzR at f; subst f; exact VR.stp r (Stp.sub sb) _ v x
  | .ktp _, d, v, f, x => by unfold Dm.FzR at f; subst f; exact VR.stp r (Stp.sub sb) _ v x
theorem VRs.fz (r : HR g H h) (sb : Dm.Sub h' h) : ∀ (l' l : List Dm.D) (vs : List V), Dm.FzRs h h' l' l → VRs g H h l vs → VRs g H h' l' vs
  | [], l, vs, f, x => by
    unfold Dm.FzRs at f
    subst f
    unfold VRs at x ⊢
    exact x
  | d' :: l', l, vs, f, x => by
    unfold Dm.FzRs at f
    obtain ⟨d, r', rfl, f1, f2⟩ := f
    unfold VRs at x ⊢
    obtain ⟨v, q, e, x1, x2⟩ := x
    exact ⟨v, q, e, VR.fz r sb d' d v f1 x1, VRs.fz r sb l' r' q f2 x2⟩
end
end
section
variable {X : Cx} {cm : CM} {hidn : Hdn} {ac : Acc}
theorem de_frzD {e : Expr} {t : Dm.TE} (he : PE X e (LE (gOf X cm hidn) ac t)) : PE X e (LE (gOf X cm hidn) ac (Dm.eFrzD t)) := he.imp fun σ H Q ⟨s, h, E, P, sr, hr, hac, q, k⟩ =>
  LE.mk sr hr hac q fun d h1 v H1 ⟨d', h', f, sb, p⟩ s1 r1 x1 => k d' h' v H1 p (s1.trans (Stp.sub sb)) (r1.sub sb) (VR.fz r1 sb d' d v f x1)
end
end Dr
end S_DY2
section S_DX3
set_option linter.all false
set_option maxRecDepth 100000
/-! DX3: comprehensions of two clauses, the second of a range. -/
namespace Dm
def lcL2 (ok : Hd → Prop) (g : TG) (t : TT) (n : TE) (g1 : TG) (t1 : TT) (e : TE) (vs1 : List Nat) (s : St) (Q : List D → Hd → Prop) : List D → List D → Hd → Prop
  | [], acc, h => Q acc h
  | d :: r, acc, h => g d s h (fun _ _ => False) fun s2 h2 => t s2 h2 (fun _ _ => False) fun b h3 =>
      if b = true then n s2 h3 (fun _ _ => False) fun y h4 => ∃ j : Int, y = .int j ∧ (-(2 ^ 62) ≤ j ∧ j ≤ 1000000) ∧ acc.length + j.toNat ≤ lim ∧
        lcL (fun _ => True) g1 t1 e (wipe s2 vs1) (fun ys h5 => ok h5 ∧ lcL2 ok g t n g1 t1 e vs1 s Q r (acc ++ ys) h5) (rngD 0 j.toNat) [] h4
      else ok h3 ∧ lcL2 ok g t n g1 t1 e vs1 s Q r acc h3
def eLc2 (it : TI) (g : TG) (t : TT) (n : TE) (g1 : TG) (t1 : TT) (e : TE) (vs vs1 : List Nat) : TE := fun s h E Q => it s h E fun l ok h1 => lcL2 ok g t n g1 t1 e vs1 (wipe s vs) (fun ys h2 => Q (.lst ys) h2) l [] h1
theorem lcL2_ind {ok : Hd → Prop} {g : TG} {t : TT} {n : TE} {g1 : TG} {t1 : TT} {e : TE} {vs1 : List Nat} {s : St} {Q : List D → Hd → Prop} (I : List D → List D → Hd → Prop)
    (hs : ∀ d r acc h (K : List D → Hd → Prop), (∀ acc' h', I r acc' h' → K acc' h') → I (d :: r) acc h → g d s h (fun _ _ => False) fun s2 h2 => t s2 h2 (fun _ _ => False) fun b h3 =>
      if b = true then n s2 h3 (fun _ _ => False) fun y h4 => ∃ j : Int, y = .int j ∧ (-(2 ^ 62) ≤ j ∧ j ≤ 1000000) ∧ acc.length + j.toNat ≤ lim ∧
        lcL (fun _ => True) g1 t1 e (wipe s2 vs1) (fun ys h5 => ok h5 ∧ K (acc ++ ys) h5) (rngD 0 j.toNat) [] h4
      else ok h3 ∧ K acc h3)
    (hd : ∀ acc h, I [] acc h → Q acc h) : ∀ (l acc : List D) (h : Hd), I l acc h → lcL2 ok g t n g1 t1 e vs1 s Q l acc h
  | [], acc, h, i => hd acc h i
  | d :: r, acc, h, i => hs d r acc h _ (fun acc' h' i' => lcL2_ind I hs hd r acc' h' i') i
@[simp] theorem w_eLc2 {s : St} {h : Hd} {E : XP} {Q : QP} (it : TI) (g : TG) (t : TT) (n : TE) (g1 : TG) (t1 : TT) (e : TE) (vs vs1 : List Nat) : eLc2 it g t n g1 t1 e vs vs1 s h E Q = it s h E (fun l ok h1 => lcL2 ok g t n g1 t1 e vs1 (wipe s vs) (fun ys h2 => Q (.lst ys) h2) l [] h1) := propext ⟨id, id⟩
end Dm
end S_DX3
section S_DY3
set_option Elab.async false
set_option linter.all false
set_option maxRecDepth 100000
set_option maxHeartbeats 1000000
/-! DY3: soundness of DX3's transformers. -/
namespace Dr
open PySem PySem.Spec PyProof.Rows L2
/-- the range of a second clause -/
def XI (X : Cx) (cm : CM) (t : Dm.TE) : L2.TI := fun σ H R => ∃ z s h P, SR (gOf X cm z) H h s σ ∧ HR (gOf X cm z) H h ∧ t s h (fun _ _ => False) P ∧
  ∀ d h1 H1, P d h1 → Stp h H h1 H1 → HR (gOf X cm z) H1 h1 → ∃ j : Int, d = .int j ∧ (-(2 ^ 62) ≤ j ∧ j ≤ 1000000) ∧ R (Itr 0 j.toNat) H1
theorem idemW {σ : L2.St} {vs : List Nat} : L2.wipe (L2.wipe σ vs) vs = L2.wipe σ vs := by
  have idem : ∀ (ws : List Nat), (∀ w ∈ ws, w ∈ vs) → L2.wipe (L2.wipe σ vs) ws = L2.wipe σ vs := by
    intro ws
    induction ws with
    | nil => intro _; rfl
    | cons w ws ih =>
      intro hw
      have e2 : L2.wipe (L2.wipe σ vs) (w :: ws) = (L2.wipe (L2.wipe σ vs) ws).set w none := rfl
      rw [e2, ih fun z hz => hw z (List.mem_cons_of_mem _ hz)]
      apply List.ext_getElem?
      intro j
      by_cases hj : w = j
      · subst hj
        by_cases hlen : w < (L2.wipe σ vs).length
        · rw [List.getElem?_set_self hlen]
          cases q : (L2.wipe σ vs)[w]? with
          | none => rw [List.getElem?_eq_none_iff] at q; omega
          | some o =>
            cases o with
            | none => rfl
            | some v => exact absurd (hw w List.mem_cons_self) (wipe_some q).2
        · rw [List.getElem?_eq_none (by rw [List.length_set]; omega), List.getElem?_eq_none (by omega)]
      · rw [List.getElem?_set_ne hj]
  exact idem vs fun _ z => z
section
variable {X : Cx} {cm : CM} {hidn : Hdn} {ac : Acc}
theorem xi {tg a : Expr} {p pos : Pos} {t : Dm.TE} (hm : X.mg "range" = none) (ha : ∀ z, PE X a (LE (gOf X cm z) acc0 t)) (hg : Gl X "range" := by rfl) (hs : starEach [a] X.env = [(false, eval a X.env)] := by rfl) : PI X tg (.Call (.Name "range" p) [a] [] pos) (XI X cm t) :=
  ⟨fun pins s σ H R I ⟨z, s', h, P, sr, hr, q, k⟩ => (pi_range1 hg hm (da_cons (ha z) da_nil (by rw [hs]; rfl)) hs).run pins s σ H R I (by
    refine LA.one sr hr (fun _ _ z => z) q fun d h1 v H1 q1 s1 r1 x1 => ?_
    obtain ⟨j, e, hj, q2⟩ := k d h1 H1 q1 s1 r1
    subst e
    obtain rfl := vI x1
    exact ⟨j, rfl, hj.1, by omega, q2⟩)⟩
theorem lc2_read {it : Dm.TI} {g g1 : Dm.TG} {t t1 : Dm.TT} {n e : Dm.TE} {vs vs1 : List Nat} {σ : L2.St} {H : Hp} {Q : VK} {s : Dm.St} {h : Dm.Hd} {E : Dm.XP} {P : List Dm.D → Dm.Hd → Prop}
    (sr : SR (gOf X cm hidn) H h s σ) (hr : HR (gOf X cm hidn) H h) (hac : ac.ok h H σ E) (q : it s h E fun l ok h1 => Dm.lcL2 ok g t n g1 t1 e vs1 (Dm.wipe s vs) P l [] h1)
    (k : ∀ ys h2 D us H2, P ys h2 → Stp h H h2 H2 → HR (gOf X cm (hidn.add D)) H2 h2 → HR (gOf X cm hidn) H2 h2 → (∀ u, H D = some u → h D = none → isTbl u = false → False) → h2 D = none → H2 D = some (.lst us) → ¬ hidn D → VRs (gOf X cm (hidn.add D)) H2 h2 ys us → VRs (gOf X cm hidn) H2 h2 ys us → ys.length ≤ sizeLine → Q (.ref D) H2) :
    L2.tLc2 (LI (gOf X cm hidn) ac it) (XG X cm (wipeS vs) g) (XT X cm t) (XI X cm n) (XG X cm (wipeS vs1) g1) (XT X cm t1) (XEl X cm e) vs vs1 σ H Q := by
  have hlim := lim_size
  refine ⟨s, h, E, _, sr, hr, hac, q, fun l ok h1 H1 J q1 s1 r1 k1 hl IR D nD => ?_⟩
  have hz : ∀ a, (hidn a ∨ a = D) → hidn a ∨ H1 a = none := fun a z => z.imp id fun e => by subst e; exact nD
  have T0 : ∀ a u, ¬ hidn a → H1 a = some u → ¬ (hidn a ∨ a = D) ∧ upd H1 D (.lst []) a = some u := fun a u n e => by
    have ne : a ≠ D := fun z => by subst z; rw [nD] at e; cases e
    exact ⟨fun z => z.elim n ne, by rw [upd_ne ne]; exact e⟩
  have T1 : ∀ {H2 : Hp} {o : HO} a u, ¬ (hidn a ∨ a = D) → H2 a = some u → ¬ (hidn a ∨ a = D) ∧ upd H2 D o a = some u := fun a u n e => ⟨n, by rw [upd_ne fun z => n (.inr z)]; exact e⟩
  have T2 : ∀ {H2 : Hp} a u, ¬ (hidn a ∨ a = D) → H2 a = some u → ¬ hidn a ∧ H2 a = some u := fun a u n e => ⟨fun z => n (.inl z), e⟩
  have st0 : Stp h1 H1 h1 (upd H1 D (.lst [])) := Stp.new nD
  have hr0 : HR (gOf X cm (hidn.add D)) (upd H1 D (.lst [])) h1 := r1.tr T0 fun a z => by
    rcases z with z | z
    · obtain ⟨z1, u, z2⟩ := r1.hd a z
      exact ⟨z1, u, by rw [upd_ne (fun z => by subst z; rw [nD] at z2; cases z2.1)]; exact z2⟩
    · subst z; exact ⟨r1.off nD, _, upd_same, rfl⟩
  refine ⟨fun i m H2 => m = l.length - i ∧ i ≤ l.length ∧ ∃ h2 acc us, HR (gOf X cm (hidn.add D)) H2 h2 ∧ SR (gOf X cm (hidn.add D)) H2 h2 (Dm.wipe s vs) (L2.wipe σ vs) ∧ Stp h1 H1 h2 H2 ∧ H2 D = some (.lst us) ∧ ok h2 ∧
    VRs (gOf X cm (hidn.add D)) H2 h2 acc us ∧ acc.length ≤ Dm.lim ∧ Dm.lcL2 ok g t n g1 t1 e vs1 (Dm.wipe s vs) P (l.drop i) acc h2,
    ⟨l.length, by omega, Nat.zero_le _, h1, [], [], hr0, ((sr.stp hr s1).tr T0).wipe vs, st0, upd_same, k1, .nil, Nat.zero_le _, q1⟩, ?_⟩
  rintro i m H2 ⟨rfl, hi, h2, acc, us, r2, sr2, s2, eD, k2, xa, la, q2⟩
  have hD2 : h2 D = none := (r2.hd D (.inr rfl)).1
  by_cases hlt : i < l.length
  · refine .inr ⟨IR.go _ i h2 H2 s2 r2 k2 hlt, fun H3 => l.length - (i + 1) < l.length - i ∧ ∃ h3 acc us, HR (gOf X cm (hidn.add D)) H3 h3 ∧ SR (gOf X cm (hidn.add D)) H3 h3 (Dm.wipe s vs) (L2.wipe σ vs) ∧ Stp h1 H1 h3 H3 ∧ H3 D = some (.lst us) ∧ ok h3 ∧
      VRs (gOf X cm (hidn.add D)) H3 h3 acc us ∧ acc.length ≤ Dm.lim ∧ Dm.lcL2 ok g t n g1 t1 e vs1 (Dm.wipe s vs) P (l.drop (i + 1)) acc h3, fun H3 ⟨lt, n⟩ => ⟨_, lt, rfl, hlt, n⟩, fun x H3 y => ?_⟩
    obtain ⟨d, ed, sd, rd, xd⟩ := IR.yld (fun a => hidn a ∨ a = D) i h2 H2 x H3 hz s2 r2 k2 hlt y
    rw [List.drop_eq_getElem_cons hlt] at q2
    have ed' : l[i] = d := by
      rw [List.getElem?_eq_getElem hlt] at ed
      exact Option.some.inj ed
    rw [ed'] at q2
    have lt : l.length - (i + 1) < l.length - i := by omega
    refine ⟨_, d, Dm.wipe s vs, h2, _, _, xd, sr2.stp r2 sd, rd, fun s' h' σ' H' _ _ _ x h z => z, q2, fun s4 h4 σ4 H4 q4 st4 r4 sr4 wp => ⟨?_, ?_⟩⟩
    · have e1 : L2.wipe σ4 vs = L2.wipe (L2.wipe σ vs) vs := wp
      rw [e1]
      exact idemW
    have s34 := sd.trans st4
    refine ⟨_, s4, h4, _, _, sr4, r4, (fun x h z => z), q4, fun b h5 H5 q5 st5 r5 => ?_⟩
    have s35 := s34.trans st5
    have eD5 : H5 D = some (.lst us) := (s35 D _ eD hD2 rfl).1
    have sr5 := sr4.stp r4 st5
    cases b with
    | false =>
      rw [if_neg Bool.false_ne_true] at q5
      refine iteF ?_
      exact ⟨lt, h5, acc, us, r5, sr2.stp r2 s35, s2.trans s35, eD5, q5.1, VRs.stp r2 s35 _ _ xa, la, q5.2⟩
    | true =>
      rw [if_pos rfl] at q5
      refine iteT ?_
      refine ⟨_, s4, h5, _, sr5, r5, q5, fun dj h6 H6 ⟨j, ej, hj, hjl, q6⟩ st6 r6 => ⟨j, ej, hj, ?_⟩⟩
      have s36 := s35.trans st6
      have eD6 : H6 D = some (.lst us) := (s36 D _ eD hD2 rfl).1
      refine ⟨fun j' m1 H7 => m1 = j.toNat - j' ∧ j' ≤ j.toNat ∧ ∃ h7 ys us, HR (gOf X cm (hidn.add D)) H7 h7 ∧ SR (gOf X cm (hidn.add D)) H7 h7 (Dm.wipe s vs) (L2.wipe σ vs) ∧ SR (gOf X cm (hidn.add D)) H7 h7 (Dm.wipe s4 vs1) (L2.wipe σ4 vs1) ∧ Stp h1 H1 h7 H7 ∧ H7 D = some (.lst us) ∧
        VRs (gOf X cm (hidn.add D)) H7 h7 (acc ++ ys) us ∧ ys.length ≤ j' ∧ Dm.lcL (fun _ => True) g1 t1 e (Dm.wipe s4 vs1) (fun ys h5 => ok h5 ∧ Dm.lcL2 ok g t n g1 t1 e vs1 (Dm.wipe s vs) P (l.drop (i + 1)) (acc ++ ys) h5) ((Dm.rngD 0 j.toNat).drop j') ys h7,
        ⟨j.toNat, by omega, Nat.zero_le _, h6, [], us, r6, sr2.stp r2 s36, (sr5.stp r5 st6).wipe vs1, s2.trans s36, eD6, by rw [List.append_nil]; exact VRs.stp r2 s36 _ _ xa, Nat.zero_le _, q6⟩, ?_⟩
      rintro j' m1 H7 ⟨rfl, hj', h7, ys, us7, r7, sro7, sr7, s7, eD7, xa7, la7, q7⟩
      have hD7 : h7 D = none := (r7.hd D (.inr rfl)).1
      by_cases hlt7 : j' < j.toNat
      · refine .inr ⟨hlt7, fun H8 => j.toNat - (j' + 1) < j.toNat - j' ∧ ∃ h8 ys us, HR (gOf X cm (hidn.add D)) H8 h8 ∧ SR (gOf X cm (hidn.add D)) H8 h8 (Dm.wipe s vs) (L2.wipe σ vs) ∧ SR (gOf X cm (hidn.add D)) H8 h8 (Dm.wipe s4 vs1) (L2.wipe σ4 vs1) ∧ Stp h1 H1 h8 H8 ∧ H8 D = some (.lst us) ∧
          VRs (gOf X cm (hidn.add D)) H8 h8 (acc ++ ys) us ∧ ys.length ≤ j' + 1 ∧ Dm.lcL (fun _ => True) g1 t1 e (Dm.wipe s4 vs1) (fun ys h5 => ok h5 ∧ Dm.lcL2 ok g t n g1 t1 e vs1 (Dm.wipe s vs) P (l.drop (i + 1)) (acc ++ ys) h5) ((Dm.rngD 0 j.toNat).drop (j' + 1)) ys h8, fun H8 ⟨lt, n⟩ => ⟨_, lt, rfl, hlt7, n⟩, fun x8 H8 y8 => ?_⟩
        obtain ⟨eH, ex⟩ := y8
        subst eH ex
        have hlr : j' < (Dm.rngD 0 j.toNat).length := by rw [rng_len]; exact hlt7
        rw [List.drop_eq_getElem_cons hlr] at q7
        have er : (Dm.rngD 0 j.toNat)[j'] = .int (0 + (j' : Nat)) := by simp [Dm.rngD]
        rw [er] at q7
        have lt7 : j.toNat - (j' + 1) < j.toNat - j' := by omega
        refine ⟨_, .int (0 + (j' : Nat)), Dm.wipe s4 vs1, h7, _, _, by unfold VR; rfl, sr7, r7, fun s' h' σ' H' _ _ _ x h z => z, q7, fun s9 h9 σ9 H9 q9 st9 r9 sr9 wp9 => ⟨?_, ?_⟩⟩
        · have e1 : L2.wipe σ9 vs1 = L2.wipe (L2.wipe σ4 vs1) vs1 := wp9
          rw [e1]
          exact idemW
        refine ⟨_, s9, h9, _, _, sr9, r9, (fun x h z => z), q9, fun b h10 H10 q10 st10 r10 => ?_⟩
        have s710 := st9.trans st10
        have eD10 : H10 D = some (.lst us7) := (s710 D _ eD7 hD7 rfl).1
        cases b with
        | false =>
          rw [if_neg Bool.false_ne_true] at q10
          refine iteF ?_
          exact ⟨lt7, h10, ys, us7, r10, sro7.stp r7 s710, sr7.stp r7 s710, s7.trans s710, eD10, VRs.stp r7 s710 _ _ xa7, by omega, q10.2⟩
        | true =>
          rw [if_pos rfl] at q10
          refine iteT ?_
          refine ⟨_, s9, h10, _, _, sr9.stp r9 st10, r10, (fun x h z => z), q10, fun dy h11 v11 H11 ⟨_, q11⟩ st11 r11 x11 => ?_⟩
          have s711 := s710.trans st11
          have eD11 : H11 D = some (.lst us7) := (s711 D _ eD7 hD7 rfl).1
          have ua := xa7.len
          rw [List.length_append] at ua
          refine ⟨us7, eD11, by omega, lt7, h11, ys ++ [dy], us7 ++ [v11], r11.tr T1 fun a z => ?_, (sro7.stp r7 s711).tr T1, (sr7.stp r7 s711).tr T1, ?_, upd_same, ?_, by rw [List.length_append]; simp; omega, q11⟩
          · obtain ⟨z1, u, z2⟩ := r11.hd a z
            refine ⟨z1, ?_⟩
            by_cases ea : a = D
            · subst ea; exact ⟨_, upd_same, rfl⟩
            · exact ⟨u, by rw [upd_ne ea]; exact z2⟩
          · intro a u ea na nt
            have ne : a ≠ D := fun z => by subst z; rw [nD] at ea; cases ea
            obtain ⟨z1, z2⟩ := (s7.trans s711) a u ea na nt
            exact ⟨by rw [upd_ne ne]; exact z1, z2⟩
          · rw [← List.append_assoc]
            exact VRs.tr T1 _ _ ((VRs.stp r7 s711 _ _ xa7).app (.cons x11 .nil))
      · have e : j' = j.toNat := by omega
        subst e
        have e7 : (Dm.rngD 0 j.toNat).drop j.toNat = [] := List.drop_eq_nil_of_le (by rw [rng_len]; exact Nat.le_refl _)
        rw [e7] at q7
        refine .inl ⟨Nat.le_refl _, ?_⟩
        exact ⟨lt, h7, acc ++ ys, us7, r7, sro7, s7, eD7, q7.1, xa7, by rw [List.length_append]; omega, q7.2⟩
  · have e : i = l.length := by omega
    subst e
    rw [List.drop_length] at q2
    refine .inl ⟨IR.stop _ _ h2 H2 s2 r2 k2 (Nat.le_refl _), ?_⟩
    refine k acc h2 D us H2 q2 (s1.trans s2) r2 (r2.tr T2 fun a z => (r2.hd a (.inl z))) ?_ hD2 eD (r1.nh nD) xa (VRs.tr T2 _ _ xa) (by omega)
    intro u qD qh nt
    have := (s1 D u qD qh nt).1
    rw [nD] at this
    cases this
theorem de_lc2 {elt tg iter tg1 iter1 : Expr} {ifs ifs1 : List Expr} {scope : Scope} {own : List (Str × Nat)} {vs1 : List Nat} {pos : Pos} {it : Dm.TI} {g g1 : Dm.TG} {t t1 : Dm.TT} {n e : Dm.TE} (hc : X.calm = true) (hN : X.N.Nodup) (hi : PI X tg iter (LI (gOf X cm hidn) ac it)) (ok : BlkOk X.N X.env.scope scope own) (hv : ∀ i ∈ vs1, i ∈ own.map (·.2))
    (hg : ∀ (z : Hdn) (s : Shared) (H : Hp) (C : Addr) (cl : List (Str × Addr)) (fp : List Addr), PG (X.blk s H scope (compEnvC scope cl C X.env) fp) tg (LG (gOf (X.blk s H scope (compEnvC scope cl C X.env) fp) cm z) acc0 (wipeS (own.map (·.2))) g))
    (ht : ∀ (z : Hdn) (s : Shared) (H : Hp) (C : Addr) (cl : List (Str × Addr)) (fp : List Addr), PTs (X.blk s H scope (compEnvC scope cl C X.env) fp) ifs (LT (gOf (X.blk s H scope (compEnvC scope cl C X.env) fp) cm z) acc0 t))
    (hi1 : ∀ (s : Shared) (H : Hp) (C : Addr) (cl : List (Str × Addr)) (fp : List Addr), PI (X.blk s H scope (compEnvC scope cl C X.env) fp) tg1 iter1 (XI (X.blk s H scope (compEnvC scope cl C X.env) fp) cm n))
    (hg1 : ∀ (z : Hdn) (s : Shared) (H : Hp) (C : Addr) (cl : List (Str × Addr)) (fp : List Addr), PG (X.blk s H scope (compEnvC scope cl C X.env) fp) tg1 (LG (gOf (X.blk s H scope (compEnvC scope cl C X.env) fp) cm z) acc0 (wipeS vs1) g1))
    (ht1 : ∀ (z : Hdn) (s : Shared) (H : Hp) (C : Addr) (cl : List (Str × Addr)) (fp : List Addr), PTs (X.blk s H scope (compEnvC scope cl C X.env) fp) ifs1 (LT (gOf (X.blk s H scope (compEnvC scope cl C X.env) fp) cm z) acc0 t1))
    (he : ∀ (z : Hdn) (s : Shared) (H : Hp) (C : Addr) (cl : List (Str × Addr)) (fp : List Addr), PE (X.blk s H scope (compEnvC scope cl C X.env) fp) elt (LE (gOf (X.blk s H scope (compEnvC scope cl C X.env) fp) cm z) acc0 e))
    (hs : ∀ x, foldedSetIterable iter X.env x = pure x := by intro _; rfl) (hs1 : ∀ env x, foldedSetIterable iter1 env x = pure x := by intro _ _; rfl) : PE X (.ListComp elt [⟨tg, iter, ifs, 0⟩, ⟨tg1, iter1, ifs1, 0⟩] scope pos) (LE (gOf X cm hidn) ac (Dm.eLc2 it g t n g1 t1 e (own.map (·.2)) vs1)) :=
  (pe_lc2 hc hN hi ok hv (g := XG X cm (wipeS (own.map (·.2))) g) (tt := XT X cm t) (wi1 := XI X cm n) (g1 := XG X cm (wipeS vs1) g1) (tt1 := XT X cm t1) (te := XEl X cm e) (fun s H C cl fp => xg fun z => hg z s H C cl fp) (fun s H C cl fp => xt fun z => ht z s H C cl fp) (fun s H C cl fp => hi1 s H C cl fp) (fun s H C cl fp => xg fun z => hg1 z s H C cl fp) (fun s H C cl fp => xt fun z => ht1 z s H C cl fp) (fun s H C cl fp => xe fun z => he z s H C cl fp) hs hs1).imp
    fun σ H Q ⟨s, h, E, P, sr, hr, hac, q, k⟩ => lc2_read sr hr hac q fun ys h2 D us H2 p st _ r nDD nD eD nh _ xs ln => k _ _ _ _ p st r (by unfold VR; exact ⟨D, us, rfl, nh, eD, nD, ln, xs⟩)
end
end Dr
end S_DY3
section S_DX4
set_option linter.all false
set_option maxRecDepth 100000
/-! DX4: a comprehension over a dict (numbers to pairs of numbers) that its element reads. -/
namespace Dm
def pairsD : List (D × D) → Prop
  | [] => True
  | (k, v) :: l => (∃ j a b : Int, k = .int j ∧ v = .tup [.int a, .int b]) ∧ pairsD l
def eFix (l : List (D × D)) (key : TE) : TE := fun s h E Q => key s h E fun y h1 => ∃ (j : Int) (v : D), y = .int j ∧ lkD y l = some v ∧ Q v h1
def eLcK (k : Nat) (g : TG) (e : List (D × D) → TE) (vs : List Nat) : TE := fun s h _ Q => ∃ p l, s[k]? = some (some (.ref p)) ∧ h p = some (.dct false l) ∧ pairsD l ∧
  lcL (fun _ => True) g tYes (e l) (wipe s vs) (fun ys h2 => h2 p = none ∧ Q (.lst ys) (up h2 p (.dct false l))) (l.map (·.1)) [] (rm h p)
@[simp] theorem w_eFix {s : St} {h : Hd} {E : XP} {Q : QP} (l : List (D × D)) (key : TE) : eFix l key s h E Q = key s h E (fun y h1 => ∃ (j : Int) (v : D), y = .int j ∧ lkD y l = some v ∧ Q v h1) := propext ⟨id, id⟩
@[simp] theorem w_eLcK {s : St} {h : Hd} {E : XP} {Q : QP} (k : Nat) (g : TG) (e : List (D × D) → TE) (vs : List Nat) : eLcK k g e vs s h E Q = ∃ p l, s[k]? = some (some (.ref p)) ∧ h p = some (.dct false l) ∧ pairsD l ∧
  lcL (fun _ => True) g tYes (e l) (wipe s vs) (fun ys h2 => h2 p = none ∧ Q (.lst ys) (up h2 p (.dct false l))) (l.map (·.1)) [] (rm h p) := propext ⟨id, id⟩
end Dm
end S_DX4
section S_DX5
set_option linter.all false
set_option maxRecDepth 100000
/-! DX5: exceptions. -/
namespace Dm
/-- a def that may raise, by its own body's meaning -/
def inlX (np n : Nat) (t : TS) : Sp := fun ds h E Q => ds.length = np ∧ t (endOf E Q) (dstart n ds) h
/-- raise C('..'): a class without own __init__ -/
def sRaise0 (c : String) : TS := fun P s h => P.ex ⟨c, []⟩ s h
/-- the caught exception as a datum -/
def excD (a dd : Nat) (x : Ex) : D := .exc a dd x.cls (x.args.map (·.1)) (x.args.map (·.2))
/-- try: tb; except .. as the name in slot i: ts; the classes exs -/
def sTry (exs : List (String × Nat)) (tb : TS) (i : Nat) (ts : Nat → Nat → Ex → TS) : TS := fun P s h => tb { P with ex := fun x s' h' => (x.cls, x.args.length) ∈ exs ∧ ∀ a dd, h' a = none → (x.args ≠ [] → h' dd = none) → ts a dd x { nx := fun s2 h2 => P.nx (s2.set i none) h2, rt := P.rt, bk := fun s2 h2 => P.bk (s2.set i none) h2, ct := fun s2 h2 => P.ct (s2.set i none) h2, ex := fun _ _ _ => False } (s'.set i (some (excD a dd x))) h' } s h
/-- isinstance(e, T), e in slot j -/
def eIsE (a dd : Nat) (x : Ex) (j : Nat) (T : String) : TE := fun s h _ Q => s[j]? = some (some (excD a dd x)) ∧ Q (.bl (decide (T = "ValueError" ∨ x.cls = T))) h
/-- e.f -/
def eXF (a dd : Nat) (x : Ex) (j : Nat) (f : String) : TE := fun s h _ Q => s[j]? = some (some (excD a dd x)) ∧ ∃ v, lkF f x.args = some v ∧ Q v h
/-- xs.count(y) -/
def mCnt : D → List D → Hd → QP → Prop
  | y, [x], h, Q => ∃ l, sqL h y = some l ∧ plainL 50 l = true ∧ plain 50 x = true ∧ Q (.int (l.countP fun z => eqv z x)) h
  | _, _, _, _ => False
/-- _law_told(lambda: e) and its like: the body's meaning at the slots that stand -/
def eTold (told : (XP → QP → Prop) → QP → Prop) (e : TE) : TE := fun s h _ Q => told (fun E Q' => e s h E Q') Q
/-- the wish of told's except clause: n names, the caught exception in slot i, ts the suite -/
def toldE (exs : List (String × Nat)) (n i : Nat) (ts : Nat → Nat → Ex → TS) (Q : QP) : XP := fun x h' => (x.cls, x.args.length) ∈ exs ∧ ∀ a dd, h' a = none → (x.args ≠ [] → h' dd = none) → ts a dd x (endOf (fun _ _ => False) Q) ((List.replicate n none).set i (some (excD a dd x))) h'
/-- try: return work() / except ..: ts -/
def toldR (exs : List (String × Nat)) (n i : Nat) (ts : Nat → Nat → Ex → TS) : (XP → QP → Prop) → QP → Prop := fun act Q => act (toldE exs n i ts Q) Q
/-- try: work() / except ..: ts / return None -/
def raisedR (exs : List (String × Nat)) (n i : Nat) (ts : Nat → Nat → Ex → TS) : (XP → QP → Prop) → QP → Prop := fun act Q => act (toldE exs n i ts Q) fun _ h2 => Q .non h2
section
variable {s : St} {h : Hd} {E : XP} {Q : QP} {P : En}
@[simp] theorem w_eTold (told : (XP → QP → Prop) → QP → Prop) (e : TE) : eTold told e s h E Q = told (fun E Q' => e s h E Q') Q := propext ⟨id, id⟩
@[simp] theorem w_toldR (exs : List (String × Nat)) (n i : Nat) (ts : Nat → Nat → Ex → TS) (act : XP → QP → Prop) : toldR exs n i ts act Q = act (toldE exs n i ts Q) Q := propext ⟨id, id⟩
@[simp] theorem w_raisedR (exs : List (String × Nat)) (n i : Nat) (ts : Nat → Nat → Ex → TS) (act : XP → QP → Prop) : raisedR exs n i ts act Q = act (toldE exs n i ts Q) (fun _ h2 => Q .non h2) := propext ⟨id, id⟩
@[simp] theorem w_sRaise0 (c : String) : sRaise0 c P s h = P.ex ⟨c, []⟩ s h := propext ⟨id, id⟩
@[simp] theorem w_eIsE (a dd : Nat) (x : Ex) (j : Nat) (T : String) : eIsE a dd x j T s h E Q = (s[j]? = some (some (excD a dd x)) ∧ Q (.bl (decide (T = "ValueError" ∨ x.cls = T))) h) := propext ⟨id, id⟩
@[simp] theorem w_eXF (a dd : Nat) (x : Ex) (j : Nat) (f : String) : eXF a dd x j f s h E Q = (s[j]? = some (some (excD a dd x)) ∧ ∃ v, lkF f x.args = some v ∧ Q v h) := propext ⟨id, id⟩
@[simp] theorem w_sTry (exs : List (String × Nat)) (tb : TS) (i : Nat) (ts : Nat → Nat → Ex → TS) : sTry exs tb i ts P s h = tb { P with ex := fun x s' h' => (x.cls, x.args.length) ∈ exs ∧ ∀ a dd, h' a = none → (x.args ≠ [] → h' dd = none) → ts a dd x { nx := fun s2 h2 => P.nx (s2.set i none) h2, rt := P.rt, bk := fun s2 h2 => P.bk (s2.set i none) h2, ct := fun s2 h2 => P.ct (s2.set i none) h2, ex := fun _ _ _ => False } (s'.set i (some (excD a dd x))) h' } s h := propext ⟨id, id⟩
end
end Dm
end S_DX5
section S_DXc
set_option Elab.async false
set_option linter.all false
set_option maxRecDepth 100000
set_option maxHeartbeats 1000000
/-! DXc: exceptions: what may be let out, raise, try, defs that raise. -/
namespace Dr
open PySem PySem.Spec PyProof.Rows L2
section
variable {X : Cx} {cm : CM} {hidn : Hdn}
theorem XR.stp {g : Gd} {e : Dm.Ex} {cls : Value} {d : Option Addr} {H H' : Hp} {h h' : Dm.Hd} (x : XR g e cls d H h) (s : Stp h H h' H') : XR g e cls d H' h' := by
  obtain ⟨e1, e2, e3⟩ := x
  refine ⟨e1, e2, fun ne => ?_⟩
  obtain ⟨dd, gs, d1, d2, d3, d4, d5⟩ := e3 ne
  obtain ⟨z1, z2⟩ := s dd _ d4 d3 rfl
  exact ⟨dd, gs, d1, d2, z2, z1, d5⟩
/-- the exceptions that W wishes for -/
def accX (X : Cx) (cm : CM) (hidn : Hdn) (W : WX) : Acc where
  ok := fun h H σ E => ∀ e h' cls d H', E e h' → Stp h H h' H' → HR (gOf X cm hidn) H' h' → XR (gOf X cm hidn) e cls d H' h' → W cls d σ H'
  stp := fun x s e h' cls d H' q s' r z => x e h' cls d H' q (s.trans s') r z
  mono := fun x m e h' cls d H' q s' r z => x e h' cls d H' (m _ _ q) s' r z
/-- a call of a def that may raise, where W is wished for -/
theorem de_callX {W : WX} {n : Nat} {f : Addr} {fd : FuncData} {ps : List Str} {sp : Dm.Sp} {x : Str} {p pos : Pos} {e : Expr} {es : List Expr} {t : Dm.TA} (F : FnOk X.prog X.w X.K X.mg X.base (L2.CX X.prog X.w) n f fd ps (LSp (gOf X cm hidn) sp)) (hr : Room n X.A) (hm : X.mg x = some (.ref f)) (hk : PySem.W.keepIn X.K (.ref f) = true) (hb : Binds X.K fd ps []) (tk : Takes X W)
    (ha : PA X (e :: es) (LA (gOf X cm hidn) (accX X cm hidn W) t)) (hg : Gl X x := by rfl) (hdb : (x == ("__debug__" : Str)) = false := by decide) (he : starEach (e :: es) X.env = (false, eval e X.env) :: starEach es X.env := by rfl) (hpl : (backTo pos (starEach es X.env)).any (·.1) = false := by rfl) :
    PE X (.Call (.Name x p) (e :: es) [] pos) (LE (gOf X cm hidn) (accX X cm hidn W) (Dm.eCall sp t)) :=
  (pe_callS F hr hg hm hk hb (E := WE W) (fun σ => passAt tk σ) ha hdb he hpl).imp fun σ H Q ⟨s, h, PE, P, sr, hr, hac, q, k⟩ => by
    refine ⟨s, h, PE, _, sr, hr, hac, q, fun ds h1 vs H1 q1 s1 r1 x1 => ?_⟩
    exact ⟨hidn, ds, h1, PE, P, x1, r1, q1, EndE.stp k s1, fun e h' cls d H' pe s' r' ww => hac e h' cls d H' pe (s1.trans s') r' ww⟩
/-- .. where nothing may be let out -/
theorem passF {E : XK} (h : ∀ cls d H, ¬ E cls d H) : Passes (L2.CX X.prog X.w) X E := fun pins σ H s e s' I c => by
  obtain ⟨_, _, _, cls, d, _, _, _, _, _, _, _, q⟩ := c
  exact (h _ _ _ q).elim
theorem passE0 : Passes (L2.CX X.prog X.w) X E0 := passF fun _ _ _ z => z
/-- raise C('m') -/
theorem ds_raise0 {W : WX} {C : String} {x m : Str} {j : Nat} {p p2 pos pos2 : Pos} (hc : X.calm = true) (tk : Takes X W) (q : PySem.W.excIn X.K (cm C) [.type "ValueError", .type "Exception", .type "BaseException", .type "object"] "ValueError.__new__" = true) (gC : X.mg x = some (.ref (cm C))) (kC : PySem.W.keepIn X.K (.ref (cm C)) = true)
    (r : Raises X (.ref (cm C))) (hg : Gl X x := by rfl) (hdb : (x == ("__debug__" : Str)) = false := by decide) :
    PS X (.Raise (some (.Call (.Name x p) [.Constant (.str m) j p2] [] pos2)) none pos) (LS (gOf X cm hidn) (accX X cm hidn W) (Dm.sRaise0 C)) :=
  (ps_raise hc tk (pmk_own PySem.F.excBase_ValueError q gC kC r hg hdb)).imp fun D σ H ⟨s, h, P, sr, hr, q, k⟩ =>
    k.ex s h σ H (Stp.refl _ _) hr sr _ h _ _ H q (Stp.refl _ _) hr ⟨rfl, fun _ => rfl, fun z => (z rfl).elim⟩
end
section
variable {P : Program} {w : World} {K : PySem.W.Frag} {mg : Str → Option Value} {base : Heap} {x qual : Str} {params : Arguments} {body : List Stmt} {scope : Scope} {f : Addr} {fd : FuncData} {cm : CM}
/-- a def that may raise, by its own body's meaning -/
theorem dfiX {N ps : List Str} {k : Nat} {t : Dm.TS} (F : FunD K x qual params body scope [] [] f fd) (S : FnScope N ps scope)
    (der : ∀ (hidn : Hdn) (cdv : Value) (A : Around) (outer : List Env) (s : Shared) (H : Hp) (E : XK), Room k (A.deeper (envOfC qual scope s.heap.objs.size f cdv)) →
      PSs (cxOf (L2.CX P w) P w K mg base N qual scope f cdv A outer s H E) body (LS (gOf (cxOf (L2.CX P w) P w K mg base N qual scope f cdv A outer s H E) cm hidn) (accX (cxOf (L2.CX P w) P w K mg base N qual scope f cdv A outer s H E) cm hidn (fun cls d _ H' => E cls d H')) t)) :
    FnOk P w K mg base (L2.CX P w) (k + 1) f fd ps (LSp (gK K P w cm) (Dm.inlX ps.length N.length t)) := by
  refine F.ok S (fun vs H Q E ⟨hidn, ds, h, PE, P', xs, _, q, _⟩ => by rw [xs.len]; exact q.1) fun cdv A outer s H vs Q E hr ⟨hidn, ds, h, PE, P', xs, r, q, k, kx⟩ => ?_
  refine ⟨_, der hidn cdv A outer s H E hr, Dm.dstart N.length ds, h, Dm.endOf PE P', SR.start rfl xs, r, q.2, ?_⟩
  refine ⟨fun s' h' σ' H' q s r sr => ?_, fun _ _ _ _ q => q.elim, fun _ _ _ _ q => q.elim, fun d h' v H' q s r x => ?_, fun s' h' σ' H' s1 r1 sr1 e h2 cls d H2 q s2 r2 z => ?_⟩
  · obtain ⟨h0, sb, q⟩ := q
    exact k _ _ _ _ q (s.trans (Stp.sub sb)) (r.sub sb) xN
  · obtain ⟨h0, sb, q⟩ := q
    exact k _ _ _ _ q (s.trans (Stp.sub sb)) (r.sub sb) (VR.stp r (Stp.sub sb) d v x)
  · obtain ⟨h0, sb, q⟩ := q
    exact kx _ _ _ _ _ q ((s1.trans s2).trans (Stp.sub sb)) (r2.sub sb) (XR.stp z (Stp.sub sb))
end
section
variable {X : Cx} {cm : CM} {hidn : Hdn}
/-- try: body; except B as n: suite -/
theorem ds_try {ac : Acc} {exs : List (String × Nat)} {x n : Str} {B : Value} {i : Nat} {body suite : List Stmt} {b₀ : Stmt} {np pos pos' : Pos} {tb : Dm.TS} {ts : Nat → Nat → Dm.Ex → Dm.TS}
    (hs : X.stack = X.env :: X.outer) (hf : X.env.frame = some X.env.locals) (hN : X.N.Nodup) (hi : X.N[i]? = some n) (hln : X.env.kindOf n = some .local) (hc : Names X x B) (tk : Takes X (fun _ _ _ _ => False))
    (hx : ∀ c ∈ exs, PySem.W.exmOne X.K (.ref (cm c.1)) B = some true)
    (hb : ∀ (W : WX) (pn : List (Addr × Obj)) (xe : Value → Shared → Prop), Takes (X.tr pn xe) W → PassesOwn (model X.prog X.w) X.A X.env xe → PSs (X.tr pn xe) body (LS (gOf X cm hidn) (accX (X.tr pn xe) cm hidn W) tb))
    (hsu : ∀ (a dd : Addr) (oe : Obj) (x : Dm.Ex) (d : Option Addr) (pn : List (Addr × Obj)), (x.cls, x.args.length) ∈ exs → Zc (.ref (cm x.cls)) d oe → (∃ vs, oe.data = .fields vs) → (x.args = [] → d = none) → (x.args ≠ [] → d = some dd) → PSs (X.suite a ((a, oe) :: pn)) (b₀ :: suite) (LS (gOf X cm hidn) acc0 (ts a dd x))) :
    PS X (.Try body [.ExceptHandler (some (.Name x np)) (some n) (b₀ :: suite) pos'] [] [] pos) (LS (gOf X cm hidn) ac (Dm.sTry exs tb i ts)) := by
  refine (ps_try_as (tb := fun W => LS (gOf X cm hidn) (accX X cm hidn W) tb) (ts := fun a cls d D σ H => ∃ x : Dm.Ex, (x.cls, x.args.length) ∈ exs ∧ cls = .ref (cm x.cls) ∧ (x.args = [] → d = none) ∧ ∃ dd, (x.args ≠ [] → d = some dd) ∧ LS (gOf X cm hidn) acc0 (ts a dd x) D σ H) hs hf hN hi hln hc tk (fun W pn xe tk' po => hb W pn xe tk' po) fun a oe cls d pn hz hd => ⟨fun pins s σ H D I hh => ?_⟩).imp fun D σ H ⟨s, h, P, sr, hr, q, k⟩ => ?_
  · obtain ⟨x, hx1, rfl, hx2, dd, hx3, q⟩ := hh
    exact (hsu a dd oe x d pn hx1 hz hd hx2 hx3).run pins s σ H D I q
  · refine ⟨s, h, _, sr, hr, q, ⟨k.nx, k.bk, k.ct, k.rt, fun s1 h1 σ1 H1 st1 r1 sr1 e h2 cls d H2 ⟨mem, q2⟩ st2 r2 z => ?_⟩⟩
    obtain ⟨z1, z2, z3⟩ := z
    subst z1
    refine ⟨true, hx _ mem, fun _ a na => ?_, fun y => by cases y⟩
    have st := st1.trans st2
    have key : ∀ dd, (e.args ≠ [] → d = some dd) → (e.args ≠ [] → h2 dd = none) → (e.args ≠ [] → ¬ hidn dd ∧ h2 dd = none ∧ ∃ gs, H2 dd = some (.xd gs) ∧ FX (e.args.map (·.1)) (e.args.map (·.2)) gs) →
        ∃ x : Dm.Ex, (x.cls, x.args.length) ∈ exs ∧ Value.ref (cm e.cls) = .ref (cm x.cls) ∧ (x.args = [] → d = none) ∧ ∃ dd, (x.args ≠ [] → d = some dd) ∧ LS (gOf X cm hidn) acc0 (ts a dd x) { nx := fun σ' H' => D.nx (σ'.set i none) H', rt := D.rt, bk := fun σ' H' => D.bk (σ'.set i none) H', ct := fun σ' H' => D.ct (σ'.set i none) H' } (σ1.set i (some (.ref a))) H2 := by
      intro dd d1 d2 d3
      refine ⟨e, mem, rfl, z2, dd, d1, _, h2, _, (sr1.stp r1 st2).set i (d := Dm.excD a dd e) ?_, r2, q2 a dd (r2.off na) d2, ?_⟩
      · unfold Dm.excD VR
        refine ⟨rfl, fun ne => ?_⟩
        exact d3 fun y => ne (by rw [y]; rfl)
      · exact ⟨fun s' h' σ' H' q s2 r sr => k.nx _ _ _ _ q (st.trans s2) r (sr.unset i), fun s' h' σ' H' q s2 r sr => k.bk _ _ _ _ q (st.trans s2) r (sr.unset i), fun s' h' σ' H' q s2 r sr => k.ct _ _ _ _ q (st.trans s2) r (sr.unset i), fun d' h' v H' q s2 r x => k.rt _ _ _ _ q (st.trans s2) r x, fun _ _ _ _ _ _ _ e z q => q⟩
    by_cases ha : e.args = []
    · exact key 0 (fun ne => (ne ha).elim) (fun ne => (ne ha).elim) (fun ne => (ne ha).elim)
    · obtain ⟨dd, gs, d1, d2, d3, d4, d5⟩ := z3 ha
      exact key dd (fun _ => d1) (fun _ => d3) (fun _ => ⟨d2, d3, gs, d4, d5⟩)
end
end Dr
end S_DXc
section S_DXs
set_option Elab.async false
set_option linter.all false
set_option maxRecDepth 100000
set_option maxHeartbeats 1000000
/-! DXs: what an except suite asks of the caught exception; xs.count(y). -/
namespace Dr
open PySem PySem.Spec PyProof.Rows L2
/-- what the class at C must say, for isinstance and the fields of its instances -/
structure EcK (K : PySem.W.Frag) (C : Addr) : Prop where
  cl : (PySem.W.clsIn K C).isSome = true
  hg : PySem.W.findIn K (.ref C) "__getattribute__" = some (some (.builtin "BaseException.__getattribute__"))
  hk : PySem.W.findIn K (.ref C) "__getattr__" = some none
  hs : PySem.W.subIn K (.ref C) (.type "BaseException") = some true
  ha : PySem.W.findIn K (.ref C) "__class__" = some (some (.builtin "object.__class__"))
  hn : PySem.W.specialIn K (.builtin "object.__class__") "__get__" = some (some (.builtin "getset_descriptor.__get__"))
  ht : PySem.W.takesIn K (.builtin "object.__class__") = some true
  hm : PySem.W.mroIn K C (.type "object") = some true
  hd : PySem.W.hasDictIn K C = true
def ecB (K : PySem.W.Frag) (C : Addr) : Bool :=
  (PySem.W.clsIn K C).isSome && (decide (PySem.W.findIn K (.ref C) "__getattribute__" = some (some (.builtin "BaseException.__getattribute__"))) && (decide (PySem.W.findIn K (.ref C) "__getattr__" = some none) && (decide (PySem.W.subIn K (.ref C) (.type "BaseException") = some true) &&
  (decide (PySem.W.findIn K (.ref C) "__class__" = some (some (.builtin "object.__class__"))) && (decide (PySem.W.specialIn K (.builtin "object.__class__") "__get__" = some (some (.builtin "getset_descriptor.__get__"))) && (decide (PySem.W.takesIn K (.builtin "object.__class__") = some true) &&
  (decide (PySem.W.mroIn K C (.type "object") = some true) && PySem.W.hasDictIn K C)))))))
theorem ecB_ok {K : PySem.W.Frag} {C : Addr} (h : ecB K C = true) : EcK K C := by
  unfold ecB at h
  simp only [Bool.and_eq_true, decide_eq_true_eq] at h
  obtain ⟨h1, h2, h3, h4, h5, h6, h7, h8, h9⟩ := h
  exact ⟨h1, h2, h3, h4, h5, h6, h7, h8, h9⟩
section
variable {X : Cx} {cm : CM} {hidn : Hdn} {a dd : Addr} {oe : Obj} {d : Option Addr} {pn : List (Addr × Obj)} {x : Dm.Ex}
/-- the own dict of an exception stands -/
def OwnD (H : Hp) (d : Option Addr) : Prop := d = none ∨ ∃ dd gs, d = some dd ∧ H dd = some (.xd gs)
theorem call_isX {D : Addr} (C : EcK X.K D) (hz : Zc (.ref D) d oe) (hf : ∃ vs, oe.data = .fields vs) : CallR (X.suite a ((a, oe) :: pn)) (.builtin "isinstance") (fun xs H Q => ∃ (c : V) (cv : Value) (b : Bool), xs = [.ref a, c] ∧ OwnD H d ∧ (∀ u, RelV c u → u = cv) ∧ PySem.W.kitOne X.K (.ref D) cv = some b ∧ Q (.bl b) H) := by
  intro pins s σ H xs us Q I r h
  obtain ⟨c, cv, b, rfl, od, hcv, e, q⟩ := h
  obtain ⟨u1, u2, rfl, rx, rc⟩ := vals2 r
  cases rx
  have ec := hcv _ rc
  subst ec
  obtain ⟨ga, _⟩ := I.pin (a, oe) (List.mem_append.mpr (.inl List.mem_cons_self))
  obtain ⟨vs, hv⟩ := hf
  obtain ⟨oc, odc, oda, osl⟩ := oe
  obtain ⟨z1, z2⟩ := hz
  dsimp only at z1 z2 hv
  subst z1 z2 hv
  have J : ∃ od, PySem.W.InstAt s.heap a ⟨.ref D, odc, .fields vs, osl⟩ D od := by
    rcases od with rfl | ⟨dd, gs, rfl, hh⟩
    · exact ⟨none, ga, rfl, rfl, trivial⟩
    · obtain ⟨o, ho⟩ := objOk_get (I.hok dd _ hh)
      exact ⟨some o, ga, rfl, rfl, ho⟩
  obtain ⟨od', J⟩ := J
  exact PySem.W.kia_one (PySem.W.kitx_exc C.cl C.hg C.hk C.hs C.ha C.hn C.ht C.hm) I.kIn J e (fun z => nomatch z) fun tk => ⟨.bl b, H, I.kept (t' := tk) fun _ _ z => z, rfl, q⟩
theorem ownD_of {H : Hp} {h : Dm.Hd} {v : V} (e0 : x.args = [] → d = none) (e1 : x.args ≠ [] → d = some dd) (y : VR (gOf X cm hidn) H h (Dm.excD a dd x) v) : v = .ref a ∧ OwnD H d := by
  unfold Dm.excD VR at y
  refine ⟨y.1, ?_⟩
  by_cases hx : x.args = []
  · exact .inl (e0 hx)
  · obtain ⟨_, _, gs, g1, _⟩ := y.2 (by simpa using hx)
    exact .inr ⟨dd, gs, e1 hx, g1⟩
/-- isinstance(e, T) -/
theorem de_isE {j : Nat} {n T : Str} {TS : String} {cv : V} {p p1 p2 pos : Pos} (C : EcK X.K (cm x.cls)) (hz : Zc (.ref (cm x.cls)) d oe) (hf : ∃ vs, oe.data = .fields vs) (e0 : x.args = [] → d = none) (e1 : x.args ≠ [] → d = some dd)
    (hv : PE (X.suite a ((a, oe) :: pn)) (.Name n p1) (tVar j)) (hT : PE (X.suite a ((a, oe) :: pn)) (.Name T p2) (tC cv)) (hcv : ∃ u0, (∀ u, RelV cv u → u = u0) ∧ PySem.W.kitOne X.K (.ref (cm x.cls)) u0 = some (decide (TS = "ValueError" ∨ x.cls = TS)))
    (hm : X.mg "isinstance" = none) (hg : Gl X "isinstance" := by rfl)
    (he : starEach [.Name n p1, .Name T p2] X.env = (false, eval (.Name n p1) X.env) :: starEach [.Name T p2] X.env := by rfl) (he2 : starEach [.Name T p2] X.env = [(false, eval (.Name T p2) X.env)] := by rfl) (hpl : (backTo pos (starEach [.Name T p2] X.env)).any (·.1) = false := by rfl) :
    PE (X.suite a ((a, oe) :: pn)) (.Call (.Name "isinstance" p) [.Name n p1, .Name T p2] [] pos) (LE (gOf X cm hidn) acc0 (Dm.eIsE a dd x j TS)) :=
  (pe_callB (X := X.suite a ((a, oe) :: pn)) (call_isX C hz hf) hg hm (by decide +kernel) (pa_cons hv (pa_cons hT pa_nil he2) he) (by decide) (by decide) he hpl).imp fun σ H Q ⟨s, h, E, P, sr, hr, _, ⟨q1, q2⟩, k⟩ => by
    obtain ⟨v, e, y⟩ := sr.get q1
    obtain ⟨rfl, od⟩ := ownD_of e0 e1 y
    obtain ⟨u0, c1, c2⟩ := hcv
    exact ⟨_, e, cv, u0, _, rfl, od, c1, c2, k.here hr q2 xB⟩
theorem lk_FX {f : String} : ∀ {ks : List String} {l : List Dm.D} {gs : List (Str × V)} {args : List (String × Dm.D)} {w : Dm.D}, FX ks l gs → ks = args.map (·.1) → l = args.map (·.2) → Dm.lkF f args = some w → ∃ v, gs.lookup (Str.ofString f) = some v ∧ fxV w = some v
  | _, _, _, [], w, _, _, _, e => by simp [Dm.lkF] at e
  | _, _, gs, (k, d) :: args, w, r, rfl, rfl, e => by
    simp only [List.map_cons] at r
    unfold FX at r
    obtain ⟨v, t, rfl, r1, r2⟩ := r
    unfold Dm.lkF at e
    rw [List.lookup_cons, beq_ofString]
    by_cases hq : k = f
    · subst hq
      rw [if_pos rfl] at e
      cases e
      rw [decide_eq_true rfl]
      exact ⟨v, rfl, r1⟩
    · rw [if_neg hq] at e
      rw [decide_eq_false fun z => hq z.symm]
      exact lk_FX r2 rfl rfl e
theorem fx_VR {g : Gd} {H : Hp} {h : Dm.Hd} {w : Dm.D} {v : V} (e : fxV w = some v) : VR g H h w v := by
  cases w with
  | int i => cases e; exact xI
  | str x => cases e; exact xS
  | non => cases e; exact xN
  | bl b => cases e; exact xB
  | _ => cases e
/-- e.f -/
theorem de_xF {j : Nat} {n : Str} {f : String} {p1 pos : Pos} (C : EcK X.K (cm x.cls)) (hno : PySem.W.findIn X.K (.ref (cm x.cls)) (Str.ofString f) = some none) (hz : Zc (.ref (cm x.cls)) d oe) (hf : ∃ vs, oe.data = .fields vs) (e1 : x.args ≠ [] → d = some dd)
    (hv : PE (X.suite a ((a, oe) :: pn)) (.Name n p1) (tVar j)) (hb : attributeBase (.Name n p1) (Str.ofString f) X.env (eval (.Name n p1) X.env) = eval (.Name n p1) X.env := by rfl) :
    PE (X.suite a ((a, oe) :: pn)) (.Attribute (.Name n p1) (Str.ofString f) pos) (LE (gOf X cm hidn) acc0 (Dm.eXF a dd x j f)) :=
  (pe_xf ⟨C.hg, C.hk, C.hs, C.hd⟩ hno hz hf hv hb).imp fun σ H Q ⟨s, h, E, P, sr, hr, _, ⟨q1, w, q2, q3⟩, k⟩ => by
    obtain ⟨v, e, y⟩ := sr.get q1
    have ne : x.args ≠ [] := fun z => by rw [z] at q2; simp [Dm.lkF] at q2
    unfold Dm.excD VR at y
    obtain ⟨rfl, y⟩ := y
    obtain ⟨_, _, gs, g1, g2⟩ := y (by simpa using ne)
    obtain ⟨u, l1, l2⟩ := lk_FX g2 rfl rfl q2
    exact ⟨_, e, rfl, rfl, dd, gs, u, e1 ne, g1, l1, k.here hr q3 (fx_VR l2)⟩
end
section
variable {X : Cx} {cm : CM} {hidn : Hdn} {ac : Acc} {apos pos : Pos} {e o : Expr} {es : List Expr} {t : Dm.TA} {to : Dm.TE}
theorem mt_countX (room : X.A.units + 65 < cLine) : MtR X "list.count" (fun x xs H Q => ∃ (p : Addr) (zs : List V) (y : V) (d : PyData) (ds : List PyData), x = .ref p ∧ xs = [y] ∧ SqL X.K H p zs ∧ DpAll X.K H zs ds ∧ Dp X.K H y d ∧ SeqAt.shaped (.list ds) = true ∧ SeqAt.shaped d = true ∧ Q (.int ((ds.countP fun z => PyData.eqv z d : Nat) : Int)) H) := by
  intro pins s σ H x xs v us Q I rx rxs hh
  obtain ⟨p, zs, y, d, ds, rfl, rfl, hs, hz, hy, s1, s2, q⟩ := hh
  cases rx
  obtain ⟨uy, rfl, ry⟩ := vals1 rxs
  obtain ⟨bs, rb⟩ := Dp.reads I d y uy hy ry
  obtain ⟨its, rv, pl, hlen⟩ := I.list hs
  obtain ⟨as, ra⟩ := Dp.readsAll I ds zs its hz rv
  have c1 : PyData.canLayAll0 ds = true := SeqAt.canLay_of_shaped s1
  exact SeqAt.count_list_data pl.isList (by simpa using ra) rb (PyData.plainAll_of_canLay0 ds c1) (PyData.plain_of_canLay0 d (SeqAt.canLay_of_shaped s2)) (room_in_shaped s2 room) ⟨.int _, H, I.tok _, ⟨_, rfl⟩, q⟩
theorem cnt_py {x : Dm.D} (px : Dm.plain 50 x = true) : ∀ {l : List Dm.D}, Dm.plainL 50 l = true → ((pyL l).countP fun z => PyData.eqv z (py x)) = l.countP fun z => Dm.eqv z x
  | [], _ => rfl
  | d :: l, p => by
    unfold Dm.plainL at p
    rw [Bool.and_eq_true] at p
    unfold pyL
    rw [List.countP_cons, List.countP_cons, cnt_py px p.2, py_eqv 50 50 d x p.1 px]
theorem de_cnt (hu : X.A.units + 65 < cLine) (ho : PE X o (LE (gOf X cm hidn) ac to)) (ha : PA X (e :: es) (LA (gOf X cm hidn) ac t))
    (hbase : attributeBase o "count" X.env (eval o X.env) = eval o X.env := by rfl)
    (hfew : ((backTo pos (starEach (e :: es) X.env)).all (fun x => !x.1) && (backToKw pos (keywordEach [] X.env)).all (fun x => x.1.isSome)
      && decide ((e :: es).length + ([] : List Keyword).length + (if ([] : List Keyword).isEmpty then 0 else 1) < 30)) = true := by rfl)
    (hline : (apos.endLine == pos.line) = true := by rfl) (hs : starEach (e :: es) X.env = (false, eval e X.env) :: starEach es X.env := by rfl) (hplain : (backTo pos (starEach es X.env)).any (·.1) = false := by rfl) :
    PE X (.Call (.Attribute o "count" apos) (e :: es) [] pos) (LE (gOf X cm hidn) ac (Dm.eM Dm.tyL Dm.mCnt to t)) :=
  (pe_bm F.plainAttrs_list F.slot_list_count F.type_list_count (MtR.imp (mt_countX (X := X) hu) fun x xs H Q ⟨d, ds, h, P, xd, xds, hr, q, k⟩ => by
    match ds, q, xds with
    | [z], ⟨l, e, pl, pz, q⟩, xds =>
      obtain ⟨v, rfl, xv⟩ := vs1 xds
      obtain ⟨a, vs, rfl, hH, _, xa⟩ := sqL_at hr xd e
      exact ⟨a, vs, v, py z, pyL l, rfl, rfl, L_of hH, py_dpL 50 l vs pl xa, py_dp 50 z v pz xv, shL pl, py_sh (by decide) pz, by rw [cnt_py pz pl]; exact k.here hr q xI⟩) ho ha hbase hfew hline hs hplain).imp fun σ H Q q =>
    LE.meth (o := o) (fun d h v H hr x ty => tyL_list hr x ty) q
end
end Dr
end S_DXs
section S_DXl
set_option Elab.async false
set_option linter.all false
set_option maxRecDepth 100000
set_option maxHeartbeats 1000000
/-! DXl: a lambda handed to a def that tells what it raises. -/
namespace Dr
open PySem PySem.Spec PyProof.Rows L2
section
variable {g : Gd} {H H1 : Hp} {h : Dm.Hd}
theorem Stp.ofN (eN : LamX.ExtN H H1) : Stp h H h H1 := fun a o e n nt => ⟨eN a o e (fun ps z => by subst z; cases nt), n⟩
theorem HR.obu (r : HR g H h) {a : Addr} {o : Dm.HObj} {u : HO} (e : h a = some o) (eu : H a = some u) : hkd u = true := by
  have x := r a o e
  cases o with
  | lst l => obtain ⟨vs, e1, _⟩ := x; rw [e1] at eu; cases eu; rfl
  | dct t l =>
    cases t with
    | false => obtain ⟨vs, e1, _⟩ := x; rw [e1] at eu; cases eu; rfl
    | true => obtain ⟨vs, e1, _⟩ := x; rw [e1] at eu; cases eu; rfl
  | ins c fs => obtain ⟨dx, gs, e1, _⟩ := x; rw [e1] at eu; cases eu; rfl
theorem hkd_nt {u : HO} (e : hkd u = true) (ps : Array Value) : u ≠ .tbl ps := fun z => by subst z; cases e
theorem hkd_code {u : HO} {c : Addr} {q : Str} (e : hkd u = true) : u ≠ LamX.CodeO c q := fun z => by subst z; cases e
/-- tables have grown, all else stays -/
theorem HR.ext (r : HR g H h) (eN : LamX.ExtN H H1) (T1 : LamX.Tabs g.cm.tabs H1) : HR g H1 h := by
  refine ⟨fun a o e => (r a o e).stp r (Stp.ofN eN) fun u eu => eN a u eu (hkd_nt (r.obu e eu)), fun a z => ?_, fun p hp => ?_⟩
  · obtain ⟨z1, u, z2, z3⟩ := r.hd a z
    exact ⟨z1, u, eN a u z2 (hkd_nt z3), z3⟩
  · obtain ⟨t1, t0, _⟩ := r.tb p hp
    obtain ⟨ps, s1, s2, s3⟩ := T1 p hp
    refine ⟨t1, t0, ps, s1, s2, fun pos cv hc => ?_⟩
    obtain ⟨c, c1, c2⟩ := s3 pos cv hc
    refine ⟨c, c1, fun z => ?_, ?_, c2⟩
    · obtain ⟨_, u, z2, z3⟩ := r.hd c z
      have e := eN c u z2 (hkd_nt z3)
      rw [c2] at e
      exact hkd_code z3 (Option.some.inj e).symm
    · cases e : h c with
      | none => rfl
      | some o =>
        obtain ⟨u, eu⟩ := r.there e
        have k := r.obu e eu
        have e2 := eN c u eu (hkd_nt k)
        rw [c2] at e2
        exact (hkd_code k (Option.some.inj e2).symm).elim
theorem HR.tabs (r : HR g H h) : LamX.Tabs g.cm.tabs H := fun p hp => by
  obtain ⟨_, _, ps, s1, s2, s3⟩ := r.tb p hp
  refine ⟨ps, s1, s2, fun pos cv hc => ?_⟩
  obtain ⟨c, c1, _, _, c2⟩ := s3 pos cv hc
  exact ⟨c, c1, c2⟩
theorem SR.nones : ∀ (n : Nat) (σ : L2.St), σ.length = n → SR g H h (List.replicate n none) σ
  | 0, σ, e => by rw [List.length_eq_zero_iff.mp e]; simp [SR]
  | n + 1, [], e => by simp at e
  | n + 1, o :: σ, e => by
    rw [List.replicate_succ]
    unfold SR
    exact ⟨o, σ, rfl, SR.nones n σ (by simpa using e)⟩
end
section
variable {X : Cx} {cm : CM} {hidn : Hdn}
/-- the exceptions that told tells -/
def tgE (X : Cx) (cm : CM) (hidn : Hdn) (exs : List (String × Nat)) (n i : Nat) (ts : Nat → Nat → Dm.Ex → Dm.TS) (Q : VK) : XK := fun cls d H' => ∃ (e : Dm.Ex) (h' : Dm.Hd) (dd : Addr), (e.cls, e.args.length) ∈ exs ∧ cls = .ref (cm e.cls) ∧ (e.args = [] → d = none) ∧ (e.args ≠ [] → d = some dd) ∧
  HR (gOf X cm hidn) H' h' ∧ (e.args ≠ [] → ¬ hidn dd ∧ h' dd = none ∧ ∃ gs, H' dd = some (.xd gs) ∧ FX (e.args.map (·.1)) (e.args.map (·.2)) gs) ∧
  ∀ a, h' a = none → ∃ P, ts a dd e P ((List.replicate n none).set i (some (Dm.excD a dd e))) h' ∧ EndS (gOf X cm hidn) acc0 h' H' P { nx := fun _ H2 => Q .non H2, rt := Q }
/-- what the wish for the body gives, in told's frame -/
theorem tg_wish {exs : List (String × Nat)} {i : Nat} {ts : Nat → Nat → Dm.Ex → Dm.TS} {Ng : List Str} {CS : Addr} {Q : VK} {D : Ends} {W : WX} (hD : D = { nx := fun _ H2 => Q .non H2, rt := Q }) (hx : ∀ c ∈ exs, PySem.W.exmOne X.K (.ref (cm c.1)) (.ref CS) = some true) {cls : Value} {d : Option Addr} {σ' : L2.St} {H' : Hp} (q : tgE X cm hidn exs Ng.length i ts Q cls d H') :
    wAs X.K (.ref CS) i (fun a cls d D σ H => σ.length = Ng.length → ∃ (e : Dm.Ex) (dd : Addr), (e.cls, e.args.length) ∈ exs ∧ cls = .ref (cm e.cls) ∧ (e.args = [] → d = none) ∧ (e.args ≠ [] → d = some dd) ∧ LS (gOf X cm hidn) acc0 (ts a dd e) D σ H) W D cls d σ' H' := by
  obtain ⟨e, h', dd, m1, m2, m3, m4, r, m5, m6⟩ := q
  subst m2 hD
  refine ⟨true, hx _ m1, fun _ a na hl => ?_, fun z => by cases z⟩
  obtain ⟨P, q1, q2⟩ := m6 a (r.off na)
  refine ⟨e, dd, m1, rfl, m3, m4, _, h', P, (SR.nones Ng.length σ' (by simpa using hl)).set i (d := Dm.excD a dd e) ?_, r, q1, ⟨q2.nx, q2.bk, q2.ct, q2.rt, q2.ex⟩⟩
  unfold Dm.excD VR
  exact ⟨rfl, fun ne => m5 fun y => ne (by rw [y]; rfl)⟩
/-- what the wish at D says, of the layer's -/
theorem tg_of {exs : List (String × Nat)} {n i : Nat} {ts : Nat → Nat → Dm.Ex → Dm.TS} {h h' : Dm.Hd} {H H' : Hp} {P : Dm.QP} {Q : VK} {e : Dm.Ex} {cls : Value} {d : Option Addr} (k : EndE (gOf X cm hidn) h H P Q) (q : Dm.toldE exs n i ts P e h') (st : Stp h H h' H') (r : HR (gOf X cm hidn) H' h') (x : XR (gOf X cm hidn) e cls d H' h') :
    tgE X cm hidn exs n i ts Q cls d H' := by
  obtain ⟨m1, m2⟩ := q
  obtain ⟨x1, x2, x3⟩ := x
  have fin : ∀ dd, (e.args ≠ [] → d = some dd) → (e.args ≠ [] → ¬ hidn dd ∧ h' dd = none ∧ ∃ gs, H' dd = some (.xd gs) ∧ FX (e.args.map (·.1)) (e.args.map (·.2)) gs) → tgE X cm hidn exs n i ts Q cls d H' := fun dd y1 y2 => by
    refine ⟨e, h', dd, m1, x1, x2, y1, r, y2, fun a na => ⟨_, m2 a dd na (fun ne => (y2 ne).2.1), ?_⟩⟩
    refine ⟨fun s2 h2 σ2 H2 ⟨h0, sb, q⟩ s r sr => k _ _ _ _ q ((st.trans s).trans (Stp.sub sb)) (r.sub sb) xN, fun _ _ _ _ q => q.elim, fun _ _ _ _ q => q.elim, fun d h2 v H2 ⟨h0, sb, q⟩ s r x => k _ _ _ _ q ((st.trans s).trans (Stp.sub sb)) (r.sub sb) (VR.stp r (Stp.sub sb) d v x), fun _ _ _ _ _ _ _ e z ⟨_, _, q⟩ => q⟩
  by_cases ha : e.args = []
  · exact fin 0 (fun ne => (ne ha).elim) (fun ne => (ne ha).elim)
  · obtain ⟨dd, gs, d1, d2, d3, d4, d5⟩ := x3 ha
    exact fin dd (fun _ => d1) (fun _ => ⟨d2, d3, gs, d4, d5⟩)
abbrev tldX (X : Cx) (Ng : List Str) (x : Str) (sg : Scope) (g : Addr) (cdg : Value) (s : Shared) (H : Hp) : Cx := (cxOf C8.CX0 X.prog X.w X.K X.mg X.base Ng x sg g cdg X.A X.stack s H C8.E0).nox
/-- what is asked of told's suite -/
def SuiteOk (X : Cx) (cm : CM) (hidn : Hdn) (exs : List (String × Nat)) (ts : Nat → Nat → Dm.Ex → Dm.TS) (Ng : List Str) (x : Str) (sg : Scope) (g : Addr) (cdg : Value) (suite : List Stmt) : Prop :=
  ∀ (s : Shared) (H : Hp) (a dd : Addr) (oe : Obj) (e : Dm.Ex) (d : Option Addr) (pn : List (Addr × Obj)), (e.cls, e.args.length) ∈ exs → Zc (.ref (cm e.cls)) d oe → (∃ vs, oe.data = .fields vs) → (e.args = [] → d = none) → (e.args ≠ [] → d = some dd) →
    PSs ((tldX X Ng x sg g cdg s H).suite a ((a, oe) :: pn)) suite (LS (gOf X cm hidn) acc0 (ts a dd e))
section
variable {exs : List (String × Nat)} {i : Nat} {ts : Nat → Nat → Dm.Ex → Dm.TS} {Ng : List Str} {x a n B q : Str} {sg : Scope} {g CS : Addr} {cdg : Value} {b₀ : Stmt} {suite : List Stmt} {np pos pos' p1 p2 p3 p4 p5 : Pos} {j : Nat}
theorem told_gives1 (hN : Ng.Nodup) (hi : Ng[i]? = some n) (hln : sg.names.lookup n = some .local) (hgB : sg.names.lookup B = some .globalImplicit) (hBd : (B == ("__debug__" : Str)) = false) (hB : X.mg B = some (.ref CS)) (hx : ∀ c ∈ exs, PySem.W.exmOne X.K (.ref (cm c.1)) (.ref CS) = some true)
    (h0 : ∀ f : Addr, (L2.start Ng [V.ref f])[0]? = some (some (V.ref f))) (hsu : SuiteOk X cm hidn exs ts Ng x sg g cdg (b₀ :: suite)) :
    LamX.GivesTo X Ng x sg g cdg [.Try [.Return (some (.Call (.Name a p1) [] [] p2)) p3] [.ExceptHandler (some (.Name B np)) (some n) (b₀ :: suite) pos'] [] [] pos] a q (fun tl H Q => tl (tgE X cm hidn exs Ng.length i ts Q) H Q) := by
  intro f c' s H Q tl act hc h
  have hgl : Gl (tldX X Ng x sg g cdg s H) B := hgB
  refine ⟨_, pss_one (ps_try_as (X := tldX X Ng x sg g cdg s H) (c := .ref CS) (Wout := fun _ _ _ _ => False) (tb := fun W D σ H => ∃ Ech : XK, (∀ cls d σ' H', Ech cls d H' → W cls d σ' H') ∧ σ[0]? = some (some (.ref f)) ∧ H c' = some (LamX.CodeO c' q) ∧ tl Ech H D.rt)
    (ts := fun a cls d D σ H => σ.length = Ng.length → ∃ (e : Dm.Ex) (dd : Addr), (e.cls, e.args.length) ∈ exs ∧ cls = .ref (cm e.cls) ∧ (e.args = [] → d = none) ∧ (e.args ≠ [] → d = some dd) ∧ LS (gOf X cm hidn) acc0 (ts a dd e) D σ H) rfl rfl hN hi hln ⟨hgl, hBd, .inl hB⟩ LamX.takes0
    (fun W pn xe tk _ => ⟨fun pins s' σ H' D I ⟨Ech, hW, h1, h2, h3⟩ => (pss_one (ps_ret (act W pn xe Ech p1 p2 tk hW))).run pins s' σ H' D I ⟨h1, h2, h3⟩⟩) (fun a oe cls d pn hz hd => ⟨fun pins s' σ H' D I hh => ?_⟩)), ?_⟩
  · obtain ⟨e, dd, m1, rfl, m2, m3, q⟩ := hh I.len
    exact (hsu s H a dd oe e d pn m1 hz hd m2 m3).run pins s' σ H' D I q
  · exact ⟨tgE X cm hidn exs Ng.length i ts Q, fun cls d σ' H' z => tg_wish (Ng := Ng) rfl hx z, h0 f, hc, h⟩
theorem told_gives2 (hN : Ng.Nodup) (hi : Ng[i]? = some n) (hln : sg.names.lookup n = some .local) (hgB : sg.names.lookup B = some .globalImplicit) (hBd : (B == ("__debug__" : Str)) = false) (hB : X.mg B = some (.ref CS)) (hx : ∀ c ∈ exs, PySem.W.exmOne X.K (.ref (cm c.1)) (.ref CS) = some true)
    (h0 : ∀ f : Addr, (L2.start Ng [V.ref f])[0]? = some (some (V.ref f))) (hsu : SuiteOk X cm hidn exs ts Ng x sg g cdg (b₀ :: suite)) :
    LamX.GivesTo X Ng x sg g cdg [.Try [.Expr (.Call (.Name a p1) [] [] p2) p3] [.ExceptHandler (some (.Name B np)) (some n) (b₀ :: suite) pos'] [] [] pos, .Return (some (.Constant .none j p5)) p4] a q (fun tl H Q => tl (tgE X cm hidn exs Ng.length i ts Q) H fun _ H2 => Q .non H2) := by
  intro f c' s H Q tl act hc h
  have hgl : Gl (tldX X Ng x sg g cdg s H) B := hgB
  refine ⟨_, pss_cons (ps_try_as (X := tldX X Ng x sg g cdg s H) (c := .ref CS) (Wout := fun _ _ _ _ => False) (tb := fun W D σ H => ∃ Ech : XK, (∀ cls d σ' H', Ech cls d H' → W cls d σ' H') ∧ σ[0]? = some (some (.ref f)) ∧ H c' = some (LamX.CodeO c' q) ∧ tl Ech H fun _ H2 => D.nx σ H2)
    (ts := fun a cls d D σ H => σ.length = Ng.length → ∃ (e : Dm.Ex) (dd : Addr), (e.cls, e.args.length) ∈ exs ∧ cls = .ref (cm e.cls) ∧ (e.args = [] → d = none) ∧ (e.args ≠ [] → d = some dd) ∧ LS (gOf X cm hidn) acc0 (ts a dd e) D σ H) rfl rfl hN hi hln ⟨hgl, hBd, .inl hB⟩ LamX.takes0
    (fun W pn xe tk _ => ⟨fun pins s' σ H' D I ⟨Ech, hW, h1, h2, h3⟩ => (pss_one (ps_expr (act W pn xe Ech p1 p2 tk hW))).run pins s' σ H' D I ⟨h1, h2, h3⟩⟩) (fun a oe cls d pn hz hd => ⟨fun pins s' σ H' D I hh => ?_⟩)) (pss_one (ps_ret pe_non)), ?_⟩
  · obtain ⟨e, dd, m1, rfl, m2, m3, q⟩ := hh I.len
    exact (hsu s H a dd oe e d pn m1 hz hd m2 m3).run pins s' σ H' D I q
  · exact ⟨tgE X cm hidn exs Ng.length i ts Q, fun cls d σ' H' z => tg_wish (Ng := Ng) rfl hx z, h0 f, hc, h⟩
end
section
variable {ac : Acc} {exs : List (String × Nat)} {i : Nat} {ts : Nat → Nat → Dm.Ex → Dm.TS} {x a : Str} {g c P : Addr} {k : Nat} {bg : List Stmt} {sg : Scope} {Ng : List Str} {pg : Arguments} {fdg : FuncData} {params : Arguments} {body : Expr} {scope : Scope} {tb : Dm.TE} {p lpos pos : Pos}
/-- _law_told(lambda: body) -/
theorem de_told (told : (Dm.XP → Dm.QP → Prop) → Dm.QP → Prop) (TT : (XK → Hp → VK → Prop) → Hp → VK → Prop)
    (F : FunD X.K x x pg bg sg [] [] g fdg) (hm : X.mg x = some (.ref g)) (hb : L2.Binds X.K fdg [a] []) (Sg : FnScope Ng [a] sg) (hNg : Ng[0]? = some a) (hva : Vis sg a)
    (hG : ∀ cdg, LamX.GivesTo X Ng x sg g cdg bg a (X.env.qual ++ "<lambda>") TT)
    (hT : ∀ (s : Dm.St) (σ : L2.St) (h : Dm.Hd) (H : Hp) (P : Dm.QP) (Q : VK), SR (gOf X cm hidn) H h s σ → HR (gOf X cm hidn) H h → EndE (gOf X cm hidn) h H P Q → told (fun E Q' => tb s h E Q') P → TT (fun E H' Q' => LE (gOf X cm hidn) (accX X cm hidn fun cls d _ H' => E cls d H') tb σ H' Q') H Q)
    (TB : LamX.TabB X.base X.mg c P) (hcode : X.env.code = .ref c) (hmT : (P, X.env.qual ++ "<lambda>") ∈ cm.tabs) (hu : ∀ p ∈ cm.tabs, p.1 = P → p.2 = X.env.qual ++ "<lambda>") (hr : Room (k + 2) X.A) (L : LamX.LamS X.env.scope scope) (hdef : defaultsOf params X.env = ([], []))
    (hbind : ∀ (q : Str) (cl : List (Str × Addr)) (pm cv ctv : Value), bindArgs (PySem.W.kla_fn "<lambda>" q params body scope cl pm cv ctv) ⟨[], []⟩ = pure [])
    (hbody : ∀ (A : Around) (outer : List Env) (s : Shared) (H : Hp) (E : XK) (f c' : Addr), Room k (A.deeper (LamX.lamEnv X scope s.heap.objs.size f c')) → PE (LamX.lamCx X A outer s H E scope f c') body (LE (gOf X cm hidn) (accX X cm hidn fun cls d _ H' => E cls d H') tb))
    (hg : Gl X x := by rfl) (hdb : (x == ("__debug__" : Str)) = false := by decide) (hd : (a == ("__debug__" : Str)) = false := by decide) (hcd : (a == ("__classdict__" : Str)) = false := by decide) :
    PE X (.Call (.Name x p) [.Lambda params body scope lpos] [] pos) (LE (gOf X cm hidn) ac (Dm.eTold told tb)) := by
  obtain ⟨oc, od, dV, kV, doc, pm, an, cdv, ct, osl, rfl, lk, hcg, _⟩ := F.ex
  refine (LamX.pe_lamcall (T := cm.tabs) (TT := TT) (t := fun E => LE (gOf X cm hidn) (accX X cm hidn fun cls d _ H' => E cls d H') tb) hg hm F.kp lk hcg hb Sg hNg hva (hG cdv) TB hcode hmT hu hr L hdef hbind hbody hdb hd hcd).imp fun σ H Q ⟨s, h, E, P, sr, hr, hac, q, k⟩ => ?_
  refine ⟨hr.tabs, fun H1 eN T1 => ?_⟩
  have st : Stp h H h H1 := Stp.ofN eN
  exact hT s σ h H1 P Q (sr.stp hr st) (hr.ext eN T1) (EndE.stp k st) q
theorem told_T1 (s : Dm.St) (σ : L2.St) (h : Dm.Hd) (H : Hp) (P : Dm.QP) (Q : VK) (sr : SR (gOf X cm hidn) H h s σ) (hr : HR (gOf X cm hidn) H h) (k : EndE (gOf X cm hidn) h H P Q) (q : Dm.toldR exs Ng.length i ts (fun E Q' => tb s h E Q') P) :
    (fun tl H Q => tl (tgE X cm hidn exs Ng.length i ts Q) H Q : (XK → Hp → VK → Prop) → Hp → VK → Prop) (fun E H' Q' => LE (gOf X cm hidn) (accX X cm hidn fun cls d _ H' => E cls d H') tb σ H' Q') H Q :=
  ⟨s, h, _, P, sr, hr, fun e h' cls d H' z st r x => tg_of k z st r x, q, k⟩
theorem told_T2 (s : Dm.St) (σ : L2.St) (h : Dm.Hd) (H : Hp) (P : Dm.QP) (Q : VK) (sr : SR (gOf X cm hidn) H h s σ) (hr : HR (gOf X cm hidn) H h) (k : EndE (gOf X cm hidn) h H P Q) (q : Dm.raisedR exs Ng.length i ts (fun E Q' => tb s h E Q') P) :
    (fun tl H Q => tl (tgE X cm hidn exs Ng.length i ts Q) H fun _ H2 => Q .non H2 : (XK → Hp → VK → Prop) → Hp → VK → Prop) (fun E H' Q' => LE (gOf X cm hidn) (accX X cm hidn fun cls d _ H' => E cls d H') tb σ H' Q') H Q :=
  ⟨s, h, _, _, sr, hr, fun e h' cls d H' z st r x => tg_of k z st r x, q, fun d h' v H' z st r x => k _ _ _ _ z st r xN⟩
end
end
end Dr
end S_DXl
section S_DHead
set_option Elab.async false
set_option linter.all false
set_option maxRecDepth 100000
set_option maxHeartbeats 1000000
/-! DHead: the head's facts, with facts of one's own and the tables of code objects; a def that makes lambdas; the law's end. -/
namespace Hx
open PySem PySem.Spec PyProof.Rows L2 Dr
theorem lk_mem {a : Addr} {o : Obj} : ∀ {l : List (Addr × Obj)}, l.lookup a = some o → (a, o) ∈ l
  | [], e => by cases e
  | (b, u) :: l, e => by
    rw [List.lookup_cons] at e
    by_cases q : a = b
    · subst q
      rw [beq_self_eq_true] at e
      cases e
      exact List.mem_cons_self
    · rw [beq_false_of_ne q] at e
      exact List.mem_cons_of_mem _ (lk_mem e)
theorem frT_in {n : Nat} {h : Heap} : (frT n h.get?).In h := fun a o e => by
  have h1 : (a, o) ∈ frT n h.get? := lk_mem e
  have h2 := (List.mem_filter.mp h1).1
  unfold He.frG at h2
  obtain ⟨b, _, hb⟩ := List.mem_filterMap.mp h2
  cases q : h.get? b with
  | none => rw [q] at hb; cases hb
  | some u =>
    rw [q] at hb
    cases hb
    exact q
structure TabFact (h : Heap) (K : PySem.W.Frag) (x : Str) : Prop where
  cf : codeF K (He.ga K x) = some (cAd K x)
  hd : PySem.W.CodeHd h (cAd K x) (tAd K x)
  no : K.lookup (tAd K x) = none
  tb : h.get? (tAd K x) = some { cls := .none, data := .fields #[] }
theorem isTabO_ok {o : Obj} (e : isTabO o = true) : o = { cls := .none, data := .fields #[] } := by
  unfold isTabO at e
  split at e
  · rename_i vs sl
    rw [Bool.and_eq_true] at e
    have h1 : vs = #[] := by simpa using e.1
    have h2 : sl = #[] := by simpa using e.2
    subst h1 h2
    rfl
  · cases e
theorem tab_ok {h : Heap} {K : PySem.W.Frag} (X : K.In h) {x : Str} (e : tabB h.get? K x = true) : TabFact h K x := by
  unfold tabB at e
  simp only [Bool.and_eq_true, decide_eq_true_eq] at e
  obtain ⟨e1, e2, e3, e4, e5⟩ := e
  refine ⟨e1, ?_, Option.isNone_iff_eq_none.mp e4, ?_⟩
  · split at e2
    · rename_i od vs sl q
      unfold codeB at e2
      simp only [Bool.and_eq_true, decide_eq_true_eq] at e2
      obtain ⟨f1, f2, f3, f4, f5⟩ := e2
      have g1 : ∃ file tf, vs.getD 18 .none = .str file tf := by
        cases z : vs.getD 18 .none <;> rw [z] at f2 <;> first | exact ⟨_, _, rfl⟩ | cases f2
      have g2 : ∃ fl tg, vs.getD 7 .none = .int fl tg := by
        cases z : vs.getD 7 .none <;> rw [z] at f3 <;> first | exact ⟨_, _, rfl⟩ | cases f3
      have g3 : ∃ b, vs.getD 9 .none = .bool b := by
        cases z : vs.getD 9 .none <;> rw [z] at f4 <;> first | exact ⟨_, rfl⟩ | cases f4
      have g4 : ∃ fl tg, vs.getD 10 .none = .int fl tg := by
        cases z : vs.getD 10 .none <;> rw [z] at f5 <;> first | exact ⟨_, _, rfl⟩ | cases f5
      obtain ⟨file, tf, g1⟩ := g1
      obtain ⟨fl, tg, g2⟩ := g2
      obtain ⟨b, g3⟩ := g3
      obtain ⟨tx, tt, g4⟩ := g4
      have g0 : vs.getD 11 .none = .ref (tAd K x) := by
        rw [Array.getD_eq_getD_getElem?, f1]; rfl
      exact ⟨_, vs, file, tf, fl, tg, b, tx, tt, X _ _ q, rfl, rfl, f1, g0, g1, g2, g3, g4, e3⟩
    · cases e2
  · cases q : h.get? (tAd K x) with
    | none => rw [q] at e5; cases e5
    | some o => rw [q] at e5; rw [isTabO_ok e5]
structure Says (fa : List He.Fa) (fn : List He.DefD) (fx : List (PySem.W.Frag → Bool)) (K : PySem.W.Frag) : Prop where
  d : He.SaysD fa fn K
  x : ∀ f ∈ fx, f K = true
def hookX (n : Nat) (fa : List He.Fa) (fn : List He.DefD) (fx : List (PySem.W.Frag → Bool)) (xs : List Str) : PySem.W.Hook where
  α := AlX
  obs := fun s => obsX n fa fn fx xs s.heap.get?
  val := fun _ => (He.valD fn, true)
  says := fun _ h => ∃ K : PySem.W.Frag, K.In h ∧ Says fa fn fx K ∧ ∀ x ∈ xs, TabFact h K x
  of := fun w s e => by
    have e1 := congrArg Prod.fst e
    have e2 : (((fx.all fun f => f (frT n s.heap.get?)) && xs.all fun x => tabB s.heap.get? (frT n s.heap.get?) x) : Bool) = true := congrArg Prod.snd e
    rw [Bool.and_eq_true] at e2
    exact ⟨frT n s.heap.get?, frT_in, ⟨e1, List.all_eq_true.mp e2.1⟩, fun x hx => tab_ok frT_in (List.all_eq_true.mp e2.2 x hx)⟩
  keeps := fun _ _ _ ⟨K, hK, c, t⟩ k => ⟨K, PySem.W.Frag.In.keeps hK k, c, fun x hx => ⟨(t x hx).cf, (t x hx).hd.keeps k, (t x hx).no, k _ _ (t x hx).tb⟩⟩
theorem obsX_eq {n : Nat} {fa : List He.Fa} {fn : List He.DefD} {fx : List (PySem.W.Frag → Bool)} {xs : List Str} {g : Addr → Option Obj} {s : Shared} (h : ∀ a, g a = s.heap.get? a) : obsX n fa fn fx xs g = (hookX n fa fn fx xs).obs s := by
  have e : g = s.heap.get? := funext h
  rw [e] <;> rfl
section
variable {fa : List He.Fa} {fn : List He.DefD} {fx : List (PySem.W.Frag → Bool)} {K : PySem.W.Frag}
theorem Says.fact (c : Says fa fn fx K) (i : Nat) {f : He.Fa} (h : fa[i]? = some f := by rfl) : f.ok K = true := c.d.fact i h
theorem Says.def_ (c : Says fa fn fx K) (i : Nat) {d : He.DefD} (h : fn[i]? = some d := by rfl) : ∃ fd, FunD K d.name d.qual d.params d.body d.scope (d.dvs K) (d.kws K) (He.fAd K d.at_) fd := c.d.def_ i h
theorem Says.own (c : Says fa fn fx K) (i : Nat) {f : PySem.W.Frag → Bool} (h : fx[i]? = some f := by rfl) : f K = true := c.x f (List.mem_of_getElem? h)
end
/-- the classes' places and the tables of the functions xs -/
def cmT (K : PySem.W.Frag) (xs : List Str) : CM := ⟨fun c => He.ga K (Str.ofString c), xs.map fun x => (tAd K x, (x ++ ".<locals>.") ++ "<lambda>")⟩
/-! facts of one's own -/
def kitB (exs : List (String × Nat)) (Ts : List String) (K : PySem.W.Frag) : Bool := exs.all fun c => Ts.all fun T => decide (PySem.W.kitOne K (.ref (He.ga K (Str.ofString c.1))) (.ref (He.ga K (Str.ofString T))) = some (decide (T = "ValueError" ∨ c.1 = T)))
def kitV (exs : List (String × Nat)) (K : PySem.W.Frag) : Bool := exs.all fun c => decide (PySem.W.kitOne K (.ref (He.ga K (Str.ofString c.1))) (.type "ValueError") = some true)
def ecAll (exs : List (String × Nat)) (K : PySem.W.Frag) : Bool := exs.all fun c => ecB K (He.ga K (Str.ofString c.1))
def exmAll (exs : List (String × Nat)) (B : String) (K : PySem.W.Frag) : Bool := exs.all fun c => decide (PySem.W.exmOne K (.ref (He.ga K (Str.ofString c.1))) (.ref (He.ga K (Str.ofString B))) = some true)
def noAll (exs : List (String × Nat)) (fs : List String) (K : PySem.W.Frag) : Bool := exs.all fun c => fs.all fun f => decide (PySem.W.findIn K (.ref (He.ga K (Str.ofString c.1))) (Str.ofString f) = some none)
section
variable {exs : List (String × Nat)} {K : PySem.W.Frag} {x : Dm.Ex} {xs : List Str}
theorem kit_ok {Ts : List String} {T : String} (h : kitB exs Ts K = true) (m : (x.cls, x.args.length) ∈ exs) (hT : T ∈ Ts) : ∃ u0, (∀ u, RelV (.ref (cmT K xs T)) u → u = u0) ∧ PySem.W.kitOne K (.ref (cmT K xs x.cls)) u0 = some (decide (T = "ValueError" ∨ x.cls = T)) :=
  ⟨.ref (cmT K xs T), fun u r => r, of_decide_eq_true (List.all_eq_true.mp (List.all_eq_true.mp h _ m) T hT)⟩
theorem kitv_ok (h : kitV exs K = true) (m : (x.cls, x.args.length) ∈ exs) : ∃ u0, (∀ u, RelV (.ty "ValueError") u → u = u0) ∧ PySem.W.kitOne K (.ref (cmT K xs x.cls)) u0 = some (decide ("ValueError" = "ValueError" ∨ x.cls = "ValueError")) :=
  ⟨.type "ValueError", fun u r => r, (of_decide_eq_true (List.all_eq_true.mp h _ m)).trans (by simp)⟩
theorem ec_ok (h : ecAll exs K = true) (m : (x.cls, x.args.length) ∈ exs) : EcK K (cmT K xs x.cls) := ecB_ok (List.all_eq_true.mp h _ m)
theorem exm_ok {B : String} (h : exmAll exs B K = true) : ∀ c ∈ exs, PySem.W.exmOne K (.ref (cmT K xs c.1)) (.ref (cmT K xs B)) = some true := fun c m => of_decide_eq_true (List.all_eq_true.mp h c m)
theorem no_ok {fs : List String} {f : String} (h : noAll exs fs K = true) (m : (x.cls, x.args.length) ∈ exs) (hf : f ∈ fs) : PySem.W.findIn K (.ref (cmT K xs x.cls)) (Str.ofString f) = some none := of_decide_eq_true (List.all_eq_true.mp (List.all_eq_true.mp h _ m) f hf)
end
section
variable {P : Program} {w : World} {K : PySem.W.Frag} {mg : Str → Option Value} {base : Heap} {x qual : Str} {params : Arguments} {body : List Stmt} {scope : Scope} {f c : Addr} {fd : FuncData} {cm : CM}
/-- a def that makes lambdas: its code object is known -/
theorem dfiC {N ps : List Str} {k : Nat} {t : Dm.TS} (F : FunD K x qual params body scope [] [] f fd) (hc : codeF K f = some c) (S : FnScope N ps scope)
    (der : ∀ (hidn : Hdn) (A : Around) (outer : List Env) (s : Shared) (H : Hp) (E : XK), Room k (A.deeper (envOfC qual scope s.heap.objs.size f (.ref c))) →
      PSs (cxOf CX0 P w K mg base N qual scope f (.ref c) A outer s H E).nox body (LS (gOf (cxOf CX0 P w K mg base N qual scope f (.ref c) A outer s H E).nox cm hidn) acc0 t)) :
    FnOk P w K mg base CX0 (k + 1) f fd ps (LSp (gK K P w cm) (Dm.inl ps.length N.length t)) := by
  obtain ⟨oc, od, dV, kV, doc, pm, an, cdv, ct, osl, rfl, lk, hcg, _⟩ := F.ex
  have ec : cdv = .ref c := by
    unfold codeF at hc
    rw [lk] at hc
    cases cdv <;> cases hc
    rfl
  subst ec
  refine fn_of lk hcg S (fun vs H Q E ⟨hidn, ds, h, PE, P', xs, _, q, _⟩ => by rw [xs.len]; exact q.1) fun A outer s H vs Q E hr ⟨hidn, ds, h, PE, P', xs, r, q, k, _⟩ => ?_
  refine ⟨_, PSs.nox (der hidn A outer s H E hr), Dm.dstart N.length ds, h, Dm.endOf (fun _ _ => False) P', SR.start rfl xs, r, q.2, ?_⟩
  refine ⟨fun s' h' σ' H' q s r sr => ?_, fun _ _ _ _ q => q.elim, fun _ _ _ _ q => q.elim, fun d h' v H' q s r x => ?_, fun _ _ _ _ _ _ _ e z ⟨_, _, q⟩ => q⟩
  · obtain ⟨h0, sb, q⟩ := q
    exact k _ _ _ _ q (s.trans (Stp.sub sb)) (r.sub sb) xN
  · obtain ⟨h0, sb, q⟩ := q
    exact k _ _ _ _ q (s.trans (Stp.sub sb)) (r.sub sb) (VR.stp r (Stp.sub sb) d v x)
end
end Hx
end S_DHead
section S_DX6
set_option linter.all false
set_option maxRecDepth 100000
/-! DX6: exceptions with fields. -/
namespace Dm
/-- what a field may hold -/
def xOk : D → Bool
  | .int i => decide (0 ≤ i) && decide (i < 1000)
  | .str x => decide (x.length ≤ 100)
  | _ => false
/-- raise C(x): C's own __init__ keeps x in the field f -/
def sRaise1 (c f : String) (t : TA) : TS := fun P s h => t s h (fun x h' => P.ex x s h') fun ds h1 => ∃ x, ds = [x] ∧ xOk x = true ∧ P.ex ⟨c, [(f, x)]⟩ s h1
/-- raise C(x, y) -/
def sRaise2 (c f g : String) (t : TA) : TS := fun P s h => t s h (fun x h' => P.ex x s h') fun ds h1 => ∃ x y, ds = [x, y] ∧ xOk x = true ∧ xOk y = true ∧ P.ex ⟨c, [(g, y), (f, x)]⟩ s h1
/-- a lambda's number -/
def eLam (i : Nat) : TE := fun _ h _ Q => Q (.lam i) h
/-- told(e), e a lambda of these bodies -/
def eToldV (told : (XP → QP → Prop) → QP → Prop) (bs : List TE) (e : TE) : TE := fun s h E Q => e s h E fun d h1 => ∃ i b, d = .lam i ∧ bs[i]? = some b ∧ told (fun E' Q' => b s h1 E' Q') Q
/-- told(e) in a comprehension's block with the own names vs -/
def eToldVB (told : (XP → QP → Prop) → QP → Prop) (bs : List TE) (vs : List Nat) (e : TE) : TE := fun s h E Q => e s h E fun d h1 => ∃ i b, d = .lam i ∧ bs[i]? = some b ∧ told (fun E' Q' => b (wipe s vs) h1 E' Q') Q
/-- the body of a def that makes lambdas, called with no heap: a bool comes of it -/
def endL (Q : QP) : En where
  nx := fun _ _ => False
  rt := fun d _ => (∃ b, d = .bl b) ∧ Q d fun _ => none
  ex := fun _ _ _ => False
def inlL (np n : Nat) (t : TS) : Sp := fun ds h _ Q => ds.length = np ∧ h = (fun _ => none) ∧ (∀ d ∈ ds, ∃ ns : List Int, d = .scr (ns.map .int)) ∧ t (endL Q) (dstart n ds) h
section
variable {s : St} {h : Hd} {P : En}
@[simp] theorem w_sRaise1 (c f : String) (t : TA) : sRaise1 c f t P s h = t s h (fun x h' => P.ex x s h') fun ds h1 => ∃ x, ds = [x] ∧ xOk x = true ∧ P.ex ⟨c, [(f, x)]⟩ s h1 := propext ⟨id, id⟩
@[simp] theorem w_sRaise2 (c f g : String) (t : TA) : sRaise2 c f g t P s h = t s h (fun x h' => P.ex x s h') fun ds h1 => ∃ x y, ds = [x, y] ∧ xOk x = true ∧ xOk y = true ∧ P.ex ⟨c, [(g, y), (f, x)]⟩ s h1 := propext ⟨id, id⟩
@[simp] theorem w_eLam (i : Nat) {E : XP} {Q : QP} : eLam i s h E Q = Q (.lam i) h := propext ⟨id, id⟩
@[simp] theorem w_eToldVB (told : (XP → QP → Prop) → QP → Prop) (bs : List TE) (vs : List Nat) (e : TE) {E : XP} {Q : QP} : eToldVB told bs vs e s h E Q = e s h E fun d h1 => ∃ i b, d = .lam i ∧ bs[i]? = some b ∧ told (fun E' Q' => b (wipe s vs) h1 E' Q') Q := propext ⟨id, id⟩
@[simp] theorem w_eToldV (told : (XP → QP → Prop) → QP → Prop) (bs : List TE) (e : TE) {E : XP} {Q : QP} : eToldV told bs e s h E Q = e s h E fun d h1 => ∃ i b, d = .lam i ∧ bs[i]? = some b ∧ told (fun E' Q' => b s h1 E' Q') Q := propext ⟨id, id⟩
end
end Dm
end S_DX6
section S_DX7
set_option linter.all false
set_option maxRecDepth 100000
/-! DX7: bytes, fields changed by +=, ranges with a step. -/
namespace Dm
/-- bytes of numbers, numbers of bytes -/
def byB (ns : List Int) : Array UInt8 := (ns.map fun n => n.toNat.toUInt8).toArray
def byI (b : Array UInt8) : List Int := b.toList.map fun c => (c.toNat : Int)
def bBytes : List D → Hd → QP → Prop
  | [x], h, Q => ∃ ns, sqL h x = some (ns.map D.int) ∧ (∀ n ∈ ns, 0 ≤ n ∧ n < 256) ∧ Q (.byt (byB ns)) h
  | _, _, _ => False
def bLenB : List D → Hd → QP → Prop
  | [.byt b], h, Q => b.size ≤ lim ∧ Q (.int b.size) h
  | _, _, _ => False
def bListB : List D → Hd → QP → Prop
  | [.byt b], h, Q => b.size ≤ lim ∧ Q (.lst ((byI b).map D.int)) h
  | _, _, _ => False
def oIxB : D → D → Hd → QP → Prop
  | .byt b, .int i, h, Q => b.size ≤ lim ∧ 0 ≤ i ∧ i < b.size ∧ Q (.int ((byI b).getD i.toNat 0)) h
  | _, _, _, _ => False
/-- a slice of bytes up to a place -/
def eSlB (a hi : TE) : TE := fun s h E Q => a s h E fun x h1 => hi s h1 E fun y h2 => ∃ b i, x = .byt b ∧ y = .int i ∧ b.size ≤ lim ∧ Q (.byt (cutP b.toList none (some i)).toArray) h2
/-- o.f += v, numbers -/
def sFldAug (c : String) (o : TE) (f : String) (v : TE) : TS := fun P s h => o s h (fun x h' => P.ex x s h') fun x h1 => ∃ p fs n, x = .ref p ∧ h1 p = some (.ins c fs) ∧ lkF f fs = some (.int n) ∧
  v s h1 (fun x h' => P.ex x s h') fun y h2 => ∃ m fs', y = .int m ∧ h2 p = some (.ins c fs') ∧ fs'.length < 1000 ∧ P.nx s (up h2 p (.ins c (putF f (.int (n + m)) fs')))
/-- i, i - 1, .. -/
def rngDn (i : Int) (n : Nat) : List D := (List.range n).map fun (k : Nat) => D.int (i - k)
def iRngDn (t : TA) : TI := fun s h E R => t s h E fun ds h1 => ∃ i j, ds = [.int i, .int j, .int (-1)] ∧ (-(2 ^ 61) ≤ i ∧ i ≤ 1000000 ∧ -(2 ^ 61) ≤ j ∧ j ≤ 1000000 ∧ i - j ≤ 1000000) ∧ R (rngDn i (i - j).toNat) (fun _ => True) h1
/-- what is made of the items, where the element may raise -/
def lcX (ok : Hd → Prop) (g : TG) (e : TE) (s : St) (E : XP) (Q : List D → Hd → Prop) : List D → List D → Hd → Prop
  | [], acc, h => Q acc h
  | d :: r, acc, h => g d s h (fun _ _ => False) fun s2 h2 => e s2 h2 E fun y h4 => ok h4 ∧ lcX ok g e s E Q r (acc ++ [y]) h4
def eLcX (it : TI) (g : TG) (e : TE) (vs : List Nat) : TE := fun s h E Q => it s h E fun l ok h1 => lcX ok g e (wipe s vs) E (fun ys h2 => Q (.lst ys) h2) l [] h1
end Dm
end S_DX7
section S_DKl
set_option linter.all false
set_option maxRecDepth 100000
/-! DKl: tuples whose object is known, t.index(x), dict(pairs)[k]. -/
namespace Dm
/-- tuple(xs), its object known -/
def bTupleK : List D → Hd → QP → Prop
  | [x], h, Q => ∃ l, sqL h x = some l ∧ Q (.ktp l) h
  | _, _, _ => False
/-- a known tuple as data -/
def eKt (i : Nat) : TE := fun s h _ Q => ∃ l, s[i]? = some (some (.ktp l)) ∧ Q (.tup l) h
/-- t.index(x), t a known tuple of numbers -/
def eIdxK (i : Nat) (a : TE) : TE := fun s h E Q => ∃ ns : List Int, s[i]? = some (some (.ktp (ns.map .int))) ∧ a s h E fun x h1 => ∃ k, x = .int k ∧ k ∈ ns ∧ Q (.int (ns.idxOf k)) h1
/-- dict(xs)[k], xs pairs whose keys are tuples -/
def eDictAt (a b : TE) : TE := fun s h E Q => a s h E fun x h1 => ∃ l, x = .lst l ∧ l.length ≤ lim ∧ (∀ d ∈ l, ∃ ks v, d = .tup [.tup ks, v] ∧ ks.all key1 = true) ∧ b s h1 E fun y h2 => ∃ ys, y = .tup ys ∧ ys.all key1 = true ∧
  (∃ ks v, D.tup [.tup ks, v] ∈ l ∧ eqvL ks ys = true) ∧ ∀ ks v, D.tup [.tup ks, v] ∈ l → eqvL ks ys = true → Q v h2
/-- d[k] = v, k no tuple -/
def gDstI (o k : TE) : TG := fun d s h E Q => o s h E fun x h1 => k s h1 E fun y h2 => ∃ p l, x = .ref p ∧ h2 p = some (.dct false l) ∧ keyOk false y = true ∧ l.length < lim ∧ Q s (up h2 p (.dct false (putD y d l)))
section
variable (s : St) (h : Hd) (E : XP) (Q : QP)
@[simp] theorem w_kt (i : Nat) : eKt i s h E Q = ∃ l, s[i]? = some (some (.ktp l)) ∧ Q (.tup l) h := propext ⟨id, id⟩
@[simp] theorem w_idxK (i : Nat) (a : TE) : eIdxK i a s h E Q = ∃ ns : List Int, s[i]? = some (some (.ktp (ns.map .int))) ∧ a s h E fun x h1 => ∃ k, x = .int k ∧ k ∈ ns ∧ Q (.int (ns.idxOf k)) h1 := propext ⟨id, id⟩
@[simp] theorem w_dictAt (a b : TE) : eDictAt a b s h E Q = a s h E (fun x h1 => ∃ l, x = .lst l ∧ l.length ≤ lim ∧ (∀ d ∈ l, ∃ ks v, d = .tup [.tup ks, v] ∧ ks.all key1 = true) ∧ b s h1 E fun y h2 => ∃ ys, y = .tup ys ∧ ys.all key1 = true ∧
  (∃ ks v, D.tup [.tup ks, v] ∈ l ∧ eqvL ks ys = true) ∧ ∀ ks v, D.tup [.tup ks, v] ∈ l → eqvL ks ys = true → Q v h2) := propext ⟨id, id⟩
@[simp] theorem w_gDstI (o k : TE) (d : D) (R : St → Hd → Prop) : gDstI o k d s h E R = o s h E (fun x h1 => k s h1 E fun y h2 => ∃ p l, x = .ref p ∧ h2 p = some (.dct false l) ∧ keyOk false y = true ∧ l.length < lim ∧ R s (up h2 p (.dct false (putD y d l)))) := propext ⟨id, id⟩
end
end Dm
end S_DKl
section S_DKh
set_option Elab.async false
set_option linter.all false
set_option maxRecDepth 100000
set_option maxHeartbeats 1000000
/-! DKh: tuples whose object is known, t.index(x), dict(pairs)[k]. -/
namespace Dr
open PySem PySem.Spec PyProof.Rows L2
section
variable {X : Cx}
theorem call_tupleK : CallR X (.type "tuple") (fun xs H Q => ∃ p ys, xs = [.ref p] ∧ SqL X.K H p ys ∧ ∀ l (o : Obj), H l = none → o.cls = .type "tuple" → o.dict = none → Q (.ref l) (upd H l (.frz o (.tup ys)))) := by
  intro pins s σ H xs us Q I r h
  obtain ⟨p, ys, rfl, hq, q⟩ := h
  obtain ⟨u, rfl, rx⟩ := vals1 r
  cases rx
  obtain ⟨its, r', pl, hz⟩ := I.list hq
  have hlen := r'.length
  refine call_tuple_list pl.isList (fun h' kp => ?_) (by simp only [List.size_toArray] <;> omega)
  have I1 : Inv X pins σ H { s with heap := h' } := I.kept (t' := s.toks) kp
  have I2 : Inv X pins σ (upd H h'.objs.size (.frz { cls := .type "tuple", data := .seq its.toArray } (.tup ys))) { s with heap := h'.push { cls := .type "tuple", data := .seq its.toArray } } :=
    I1.laid (t' := s.toks) (fun b o e => Heap.get?_push_of_some _ e) (Nat.le_refl _) (show ObjOk X.prog X.w _ _ _ (.frz _ (.tup ys)) from ⟨Heap.get?_push_size _ rfl, hz, its, r', IsTup.new _ _⟩)
  exact ⟨.ref h'.objs.size, _, I2, rfl, q _ _ (I1.hok.fresh (Nat.le_refl _)) rfl rfl⟩
end
section
variable {X : Cx} {cm : CM} {hidn : Hdn} {ac : Acc}
theorem cb_tupleK : CallR X (.type "tuple") (LB (gOf X cm hidn) Dm.bTupleK) := LB.one call_tupleK (one_of (fun _ _ q => q) fun _ _ _ _ _ q => q) fun d v h H P Q xv hr ⟨l, e, q⟩ k => by
  obtain ⟨a, us, rfl, hs, z, xu⟩ := sqL_at hr xv e
  refine ⟨a, us, rfl, .inl (.inl hs), fun p o n c dn => ?_⟩
  have st : Stp h H h (upd H p (.frz o (.tup us))) := Stp.new n
  refine k _ _ _ _ q st (hr.new n) ?_
  unfold VR
  exact ⟨p, us, o, rfl, hr.nh n, upd_same, c, dn, z, VRs.stp hr st _ _ xu⟩
theorem de_kt {nm : Str} {p : Pos} {i : Nat} (hp : PE X (.Name nm p) (tVar i)) : PE X (.Name nm p) (LE (gOf X cm hidn) ac (Dm.eKt i)) :=
  (de_var (cm := cm) (hidn := hidn) (ac := ac) hp).imp fun σ H Q ⟨s, h, E, P, sr, hr, hac, ⟨l, e, q⟩, k⟩ =>
    ⟨s, h, E, fun d h' => d = .ktp l ∧ h' = h, sr, hr, hac, ⟨.ktp l, e, rfl, rfl⟩, fun d h' v H' ⟨e1, e2⟩ s' r' x => by
      subst e1 e2
      refine k _ _ _ _ q s' r' ?_
      unfold VR at x ⊢
      obtain ⟨a, vs, o, e1, e0, e2, e3, e4, e5, e6⟩ := x
      exact ⟨a, vs, e1, e0, .inr ⟨o, e2, e3, e4⟩, e5, e6⟩⟩
theorem ints_V {g : Gd} {H : Hp} {h : Dm.Hd} : ∀ {ns : List Int} {vs : List V}, VRs g H h (ns.map .int) vs → vs = ns.map V.int
  | [], _, x => by unfold List.map VRs at x; exact x
  | n :: ns, _, x => by
    rw [List.map_cons] at x
    unfold VRs at x
    obtain ⟨v, r, rfl, a, b⟩ := x
    obtain rfl := vI a
    rw [ints_V b]
    rfl
theorem de_idxK {nm : Str} {p apos pos : Pos} {i : Nat} {e : Expr} {te : Dm.TE} (hp : PE X (.Name nm p) (tVar i)) (ha : PA X [e] (LA (gOf X cm hidn) ac (Dm.aCons te Dm.aNil)))
    (hbase : attributeBase (.Name nm p) "index" X.env (eval (.Name nm p) X.env) = eval (.Name nm p) X.env := by rfl)
    (hfew : ((backTo pos (starEach [e] X.env)).all (fun x => !x.1) && (backToKw pos (keywordEach [] X.env)).all (fun x => x.1.isSome)
      && decide ([e].length + ([] : List Keyword).length + (if ([] : List Keyword).isEmpty then 0 else 1) < 30)) = true := by rfl)
    (hline : (apos.endLine == pos.line) = true := by rfl) (hs : starEach [e] X.env = (false, eval e X.env) :: starEach [] X.env := by rfl) (hplain : (backTo pos (starEach [] X.env)).any (·.1) = false := by rfl) :
    PE X (.Call (.Attribute (.Name nm p) "index" apos) [e] [] pos) (LE (gOf X cm hidn) ac (Dm.eIdxK i te)) := by
  refine ⟨fun pins s σ H Q I ⟨ss, h, E, P, sr, hr, hac, ⟨ns, es, q⟩, k⟩ => ?_⟩
  refine wpAny_Call_method_late hbase hfew hline rfl (thn ((de_var (cm := cm) (hidn := hidn) (ac := ac) hp).run pins s σ H (fun v H1 => ∃ h1, h1 = h ∧ Stp h H h1 H1 ∧ HR (gOf X cm hidn) H1 h1 ∧ VR (gOf X cm hidn) H1 h1 (.ktp (ns.map .int)) v) I
    ⟨ss, h, E, fun d h' => d = .ktp (ns.map .int) ∧ h' = h, sr, hr, hac, ⟨_, es, rfl, rfl⟩, fun d h' v H' ⟨e1, e2⟩ s' r' x => by subst e1; exact ⟨h', e2, s', r', x⟩⟩) fun v s1 ⟨x, H1, I1, r1, h1, eh, st1, hr1, x1⟩ => ?_)
  subst eh
  unfold VR at x1
  obtain ⟨a, vs, o, rfl, e0, e2, e3, e4, e5, e6⟩ := x1
  cases r1
  have hok := (show s1.heap.get? a = some o ∧ ObjOk X.prog X.w H1 s1.heap a (.tup vs) from I1.hok a _ e2).1
  refine ⟨"tuple", "tuple.index", F.plainAttrs_tuple, F.slot_tuple_index, F.type_tuple_index, ⟨o, hok, e3⟩, fun b eb => by cases eb; exact ⟨o, hok, e4⟩, ?_⟩
  have hA := ha.run pos pins s1 σ H1 (fun us H2 => ∃ kk h2, us = [V.int kk] ∧ kk ∈ ns ∧ P (.int (ns.idxOf kk)) h2 ∧ Stp h1 H1 h2 H2 ∧ HR (gOf X cm hidn) H2 h2) I1
    ⟨ss, h1, E, fun ds h2 => match ds with
      | [x] => ∃ k, x = .int k ∧ k ∈ ns ∧ P (.int (ns.idxOf k)) h2
      | _ => False, sr.stp hr st1, hr1, ac.stp hac st1, q, fun ds h2 vs2 H2 q2 s2 r2 x2 => by
      match ds, q2, x2 with
      | [_], ⟨kk, rfl, hk, q2⟩, x2 =>
        obtain ⟨v, rfl, xv⟩ := vs1 x2
        obtain rfl := vI xv
        exact ⟨kk, h2, rfl, hk, q2, s2, r2⟩⟩
  rw [hs] at hA ⊢
  refine Calls.callWith_builtin (by show (false || (backTo pos (starEach [] X.env)).any (·.1)) = false; rw [hplain] <;> rfl) (Calls.evalArgs_plain ?_)
  refine thn hA fun us s2 ⟨vs2, H2, I2, r2, kk, h2, e9, hk, q2, s2', hr2⟩ => ?_
  subst e9
  obtain ⟨u, rfl, ru⟩ := vals1 r2
  obtain ⟨t, rfl⟩ := ru
  have e2' : H2 a = some (.frz o (.tup vs)) := (s2' a _ e2 (hr1.free e2 (.inr ⟨_, _, rfl⟩)) rfl).1
  obtain ⟨its, rv, ht, _⟩ := I2.tuple (show SqT X.K H2 a _ from .inl (.inr ⟨o, e2'⟩))
  have ev := ints_V e6
  subst ev
  refine SeqAt.tuple_index_ints ht (intsAre_of rv) hk ?_
  exact ⟨.int (ns.idxOf kk), H2, I2.tok _, ⟨_, rfl⟩, k _ _ _ _ q2 (st1.trans s2') hr2 xI⟩
/-- what the pairs of a list are at their places -/
inductive PrR (g : Gd) (H : Hp) (h : Dm.Hd) (hp : Heap) : List Dm.D → List Value → List (Addr × List Key × Addr × Value) → Prop where
  | nil : PrR g H h hp [] [] []
  | cons {ks : List Dm.D} {v : Dm.D} {l : List Dm.D} {its : List Value} {q : List (Addr × List Key × Addr × Value)} {T b : Addr} {kk : List Key} {u : Value} {vv : V} (ht : hp.IsTuple T #[.ref b, u]) (hb : TupA H b (kk.map kV)) (hk : ksR ks kk) (xv : VR g H h v vv) (ru : RelV vv u) (t : PrR g H h hp l its q) :
      PrR g H h hp (.tup [.tup ks, v] :: l) (.ref T :: its) ((T, kk, b, u) :: q)
theorem prs_of {pins : List (Addr × Obj)} {σ : L2.St} {H : Hp} {s : Shared} {h : Dm.Hd} (I : Inv X pins σ H s) : ∀ {l : List Dm.D} {vs : List V} {its : List Value}, (∀ d ∈ l, ∃ ks v, d = Dm.D.tup [.tup ks, v] ∧ ks.all Dm.key1 = true) → VRs (gOf X cm hidn) H h l vs → Vals vs its → ∃ q, PrR (gOf X cm hidn) H h s.heap l its q
  | [], vs, its, _, x, r => by
    unfold VRs at x
    subst x
    cases r
    exact ⟨[], .nil⟩
  | d :: l, vs, its, ok, x, r => by
    unfold VRs at x
    obtain ⟨v, r', rfl, x1, x2⟩ := x
    cases r with
    | cons r1 r2 =>
    obtain ⟨q, hq⟩ := prs_of I (fun d hd => ok d (List.mem_cons_of_mem _ hd)) x2 r2
    obtain ⟨ks, v', rfl, hk⟩ := ok _ List.mem_cons_self
    obtain ⟨T, us, rfl, hT, _, xT⟩ := vT x1
    cases r1
    obtain ⟨k1, vv, rfl, y1, y2⟩ := vs2 xT
    obtain ⟨b, ws, rfl, hb, _, yb⟩ := vT y1
    obtain ⟨kk, hkk, rfl⟩ := ks_val hk yb
    obtain ⟨jts, rj, tj, _⟩ := I.tuple (show SqT X.K H T _ from hT.sqT)
    cases rj with
    | cons z1 z2 =>
    cases z2 with
    | cons z2 z3 =>
    cases z3
    cases z1
    exact ⟨_, .cons tj hb hkk y2 z2 hq⟩
theorem PrR.len {g : Gd} {H : Hp} {h : Dm.Hd} {hp : Heap} {l : List Dm.D} {its : List Value} {q : List (Addr × List Key × Addr × Value)} (x : PrR g H h hp l its q) : its.length = q.length ∧ l.length = q.length := by
  induction x with
  | nil => exact ⟨rfl, rfl⟩
  | cons _ _ _ _ _ _ ih => simp [ih.1, ih.2]
theorem PrR.get {g : Gd} {H : Hp} {h : Dm.Hd} {hp : Heap} {l : List Dm.D} {its : List Value} {q : List (Addr × List Key × Addr × Value)} (x : PrR g H h hp l its q) : ∀ {j : Nat} {T b : Addr} {kk : List Key} {u : Value}, q[j]? = some (T, kk, b, u) → its[j]? = some (.ref T) ∧ hp.IsTuple T #[.ref b, u] ∧ TupA H b (kk.map kV) ∧ ∃ ks v vv, Dm.D.tup [.tup ks, v] ∈ l ∧ ksR ks kk ∧ VR g H h v vv ∧ RelV vv u := by
  induction x with
  | nil => intro j T b kk u e; simp at e
  | cons ht hb hk xv ru t ih =>
    intro j T b kk u e
    cases j with
    | zero =>
      simp at e
      obtain ⟨rfl, rfl, rfl, rfl⟩ := e
      exact ⟨rfl, ht, hb, _, _, _, List.mem_cons_self, hk, xv, ru⟩
    | succ j =>
      obtain ⟨a1, a2, a3, ks, v, vv, a4, a5⟩ := ih (by simpa using e)
      exact ⟨by simpa using a1, a2, a3, ks, v, vv, List.mem_cons_of_mem _ a4, a5⟩
theorem PrR.mem {g : Gd} {H : Hp} {h : Dm.Hd} {hp : Heap} {l : List Dm.D} {its : List Value} {q : List (Addr × List Key × Addr × Value)} (x : PrR g H h hp l its q) {ks : List Dm.D} {v : Dm.D} (m : Dm.D.tup [.tup ks, v] ∈ l) : ∃ T kk b u, (T, kk, b, u) ∈ q ∧ ksR ks kk := by
  induction x with
  | nil => exact nomatch m
  | cons ht hb hk xv ru t ih =>
    rcases List.mem_cons.mp m with e | m
    · cases e
      exact ⟨_, _, _, _, List.mem_cons_self, hk⟩
    · obtain ⟨T, kk, b, u, z, w⟩ := ih m
      exact ⟨T, kk, b, u, List.mem_cons_of_mem _ z, w⟩
section
variable {K : Type} [DecidableEq K]
theorem at_append (xs ys : List (K × Addr × Value)) (k : K) : atKey (xs ++ ys) k = (atKey xs k).or (atKey ys k) := by
  unfold atKey
  rw [List.find?_append]
  cases List.find? (fun x => decide (x.1 = k)) xs <;> rfl
theorem at_putAt (k k' : K) (v : Value) : ∀ xs : List (K × Addr × Value), atKey (xs.map (putAt k v)) k' = (atKey xs k').map fun p => if k' = k then (p.1, v) else p
  | [] => rfl
  | x :: xs => by
    have ih := at_putAt k k' v xs
    unfold atKey at ih ⊢
    rw [List.map_cons, List.find?_cons, List.find?_cons]
    have e : (putAt k v x).1 = x.1 := by unfold putAt; split <;> rfl
    rw [e]
    by_cases q : x.1 = k'
    · subst q
      simp only [decide_true, Option.map_some]
      unfold putAt
      split <;> rfl
    · simp only [q, decide_false]
      exact ih
theorem at_stored (xs : List (K × Addr × Value)) (k k' : K) (a : Addr) (v : Value) : (∃ p, atKey (storedH xs k a v) k' = some p) ↔ (k = k' ∨ ∃ p, atKey xs k' = some p) := by
  unfold storedH
  split
  · rename_i z
    rw [at_putAt]
    constructor
    · rintro ⟨p, e⟩
      obtain ⟨p', e', _⟩ := Option.map_eq_some_iff.mp e
      exact .inr ⟨p', e'⟩
    · rintro (rfl | ⟨p, e⟩)
      · obtain ⟨p, e⟩ := Option.isSome_iff_exists.mp z
        exact ⟨_, by rw [e]; rfl⟩
      · exact ⟨_, by rw [e]; rfl⟩
  · rename_i z
    rw [at_append]
    constructor
    · rintro ⟨p, e⟩
      cases q : atKey xs k' with
      | some p' => exact .inr ⟨p', rfl⟩
      | none =>
        rw [q] at e
        unfold atKey at e
        rw [List.find?_cons] at e
        by_cases w : k = k'
        · exact .inl w
        · simp [w] at e
    · rintro (rfl | ⟨p, e⟩)
      · cases q : atKey xs k with
        | some p' => exact ⟨p', rfl⟩
        | none => exact ⟨(a, v), by simp [atKey]⟩
      · exact ⟨p, by rw [e]; rfl⟩
theorem at_storedV (xs : List (K × Addr × Value)) (k k' : K) (a : Addr) (v : Value) {p : Addr × Value} (e : atKey (storedH xs k a v) k' = some p) : (k = k' ∧ p.2 = v) ∨ ∃ p', atKey xs k' = some p' ∧ p'.2 = p.2 := by
  unfold storedH at e
  split at e
  · rw [at_putAt] at e
    obtain ⟨p', e', ep⟩ := Option.map_eq_some_iff.mp e
    split at ep
    · rename_i z
      subst ep
      exact .inl ⟨z.symm, rfl⟩
    · subst ep
      exact .inr ⟨p', e', rfl⟩
  · rw [at_append] at e
    cases q : atKey xs k' with
    | some p' =>
      rw [q] at e
      cases e
      exact .inr ⟨_, rfl, rfl⟩
    | none =>
      rw [q] at e
      unfold atKey at e
      rw [List.find?_cons] at e
      by_cases w : k = k'
      · simp [w] at e
        subst e
        exact .inl ⟨w, rfl⟩
      · simp [w] at e
theorem at_all : ∀ (ps xs : List (K × Addr × Value)) (k : K), ((∃ p ∈ ps, p.1 = k) ∨ ∃ p, atKey xs k = some p) → ∃ p, atKey (storedAllH xs ps) k = some p
  | [], xs, k, h => by
    rcases h with ⟨p, hp, _⟩ | h
    · exact nomatch hp
    · exact h
  | q :: ps, xs, k, h => by
    refine at_all ps (storedH xs q.1 q.2.1 q.2.2) k ?_
    rcases h with ⟨p, hp, e⟩ | h
    · rcases List.mem_cons.mp hp with rfl | hp
      · exact .inr ((at_stored xs p.1 k p.2.1 p.2.2).mpr (.inl e))
      · exact .inl ⟨p, hp, e⟩
    · exact .inr ((at_stored xs q.1 k q.2.1 q.2.2).mpr (.inr h))
theorem at_allV : ∀ (ps xs : List (K × Addr × Value)) (k : K) {p : Addr × Value}, atKey (storedAllH xs ps) k = some p → (∃ q ∈ ps, q.1 = k ∧ q.2.2 = p.2) ∨ ∃ p', atKey xs k = some p' ∧ p'.2 = p.2
  | [], xs, k, p, h => .inr ⟨p, h, rfl⟩
  | q :: ps, xs, k, p, h => by
    rcases at_allV ps (storedH xs q.1 q.2.1 q.2.2) k h with ⟨z, hz, e⟩ | ⟨p', e1, e2⟩
    · exact .inl ⟨z, List.mem_cons_of_mem _ hz, e⟩
    · rcases at_storedV xs q.1 k q.2.1 q.2.2 e1 with ⟨e3, e4⟩ | ⟨p'', e3, e4⟩
      · exact .inl ⟨q, List.mem_cons_self, e3, e4.symm.trans e2⟩
      · exact .inr ⟨p'', e3, e4.trans e2⟩
end
theorem de_dictAt {e b : Expr} {x : Str} {p cp pos : Pos} {ta tb : Dm.TE} (hc : X.calm = true) (hu : X.A.units + 30 < cLine) (hm : X.mg x = none) (hv : bootBuiltins x = some (.type "dict")) (ha : PA X [e] (LA (gOf X cm hidn) ac (Dm.aCons ta Dm.aNil))) (hb : PE X b (LE (gOf X cm hidn) ac tb))
    (hs : PlainIx b := by exact fun _ _ => rfl) (hg : Gl X x := by rfl) (hn : x ≠ "__name__" := by decide) (hdb : (x == ("__debug__" : Str)) = false := by decide) (he : starEach [e] X.env = (false, eval e X.env) :: starEach [] X.env := by rfl) (hpl : (backTo cp (starEach [] X.env)).any (·.1) = false := by rfl) :
    PE X (.Subscript (.Call (.Name x p) [e] [] cp) b pos) (LE (gOf X cm hidn) ac (Dm.eDictAt ta tb)) := by
  refine ⟨fun pins s σ H Q I ⟨ss, h, E, P, sr, hr, hac, q, k⟩ => Subscript_ ?_⟩
  refine wpAny_Call_Name_kw (ld_blt I hg hm hv ?_ hn hdb)
  refine PyProof.Rows.callWith_type1 (thn (ha.run cp pins s σ H (fun us H1 => ∃ h1 l v, us = [v] ∧ VR (gOf X cm hidn) H1 h1 (.lst l) v ∧ Stp h H h1 H1 ∧ HR (gOf X cm hidn) H1 h1 ∧ l.length ≤ Dm.lim ∧ (∀ d ∈ l, ∃ ks v, d = Dm.D.tup [.tup ks, v] ∧ ks.all Dm.key1 = true) ∧ tb ss h1 E fun y h2 => ∃ ys, y = .tup ys ∧ ys.all Dm.key1 = true ∧
      (∃ ks v, Dm.D.tup [.tup ks, v] ∈ l ∧ Dm.eqvL ks ys = true) ∧ ∀ ks v, Dm.D.tup [.tup ks, v] ∈ l → Dm.eqvL ks ys = true → P v h2) I
    ⟨ss, h, E, fun ds h1 => match ds with
      | [x] => ∃ l, x = .lst l ∧ l.length ≤ Dm.lim ∧ (∀ d ∈ l, ∃ ks v, d = Dm.D.tup [.tup ks, v] ∧ ks.all Dm.key1 = true) ∧ tb ss h1 E fun y h2 => ∃ ys, y = .tup ys ∧ ys.all Dm.key1 = true ∧
          (∃ ks v, Dm.D.tup [.tup ks, v] ∈ l ∧ Dm.eqvL ks ys = true) ∧ ∀ ks v, Dm.D.tup [.tup ks, v] ∈ l → Dm.eqvL ks ys = true → P v h2
      | _ => False, sr, hr, hac, q, fun ds h1 vs1' H1 q1 s1 r1 x1 => by
      match ds, q1, x1 with
      | [_], ⟨l, rfl, hl, hk, q1⟩, x1 =>
        obtain ⟨v, rfl, xv⟩ := vs1 x1
        exact ⟨h1, l, v, rfl, xv, s1, r1, hl, hk, q1⟩⟩) fun us s1 ⟨vs, H1, I1, r1, h1, l, v, ev, xv, st1, hr1, hl, hk, q1⟩ => ?_) he hpl
  subst ev
  obtain ⟨u, rfl, ru⟩ := vals1 r1
  obtain ⟨a, vs, rfl, ha', _, la, xa⟩ := vL xv
  cases ru
  obtain ⟨its, rv, pl, hz⟩ := I1.list (L_of (K := X.K) ha')
  obtain ⟨qs, hq⟩ := prs_of I1 hk xa rv
  obtain ⟨ln1, ln2⟩ := hq.len
  obtain ⟨o, n, ho, ho1, ho2, ho3⟩ := pl
  generalize hps : qs.map (fun z => (z.2.1, z.2.2.1, z.2.2.2)) = ps
  have kis : ∀ {H' : Hp} {h' : Heap}, HOk X.prog X.w H' h' → (∀ b' ws, TupA H1 b' ws → TupA H' b' ws) → ∀ z ∈ ps, (tupleKind (mixKind X.prog X.w)).is h' z.1 z.2.1 := by
    intro H' h' ok kp z hz
    rw [← hps] at hz
    obtain ⟨y, hy, rfl⟩ := List.mem_map.mp hz
    obtain ⟨j, hj⟩ := List.mem_iff_getElem?.mp hy
    obtain ⟨_, _, hb', _⟩ := hq.get (T := y.1) (kk := y.2.1) (b := y.2.2.1) (u := y.2.2.2) hj
    exact key_ofA ok (kp _ _ hb')
  refine call_dict_pairsH (knd := tupleKind (mixKind X.prog X.w)) (ps := ps) (PairArg.list a its.toArray (fun j => (qs[j]?.map (·.1)).getD 0) (qs.map fun z => (Value.ref z.2.2.1, z.2.2.2))) (I1.ok.hd hc) (tupleKind_room_in1 (by show X.A.units + 1 + 1 < cLine; omega))
    ⟨⟨o, n, ho, ho1, ho2, ho3⟩, by rw [List.size_toArray, List.length_map]; exact ln1, fun j k' v' e => ?_⟩ ⟨by rw [← hps]; simp, fun i key v' e => ?_⟩ (fun h' hkp z hz => ?_) (by rw [List.length_map, ← ln2]; exact Nat.le_trans hl lim_size) fun h' tk hd hkp => ?_
  · rw [List.getElem?_map] at e
    obtain ⟨⟨T, kk, b', u'⟩, e1, e2⟩ := Option.map_eq_some_iff.mp e
    cases e2
    obtain ⟨a1, a2, _⟩ := hq.get e1
    refine ⟨?_, ?_⟩
    · simp only [e1, Option.map_some, Option.getD_some]
      simpa using a1
    · simp only [e1, Option.map_some, Option.getD_some]
      exact .inl a2
  · replace e : (qs.map fun z => (Value.ref z.2.2.1, z.2.2.2))[i]? = some (key, v') := e
    rw [List.getElem?_map] at e
    obtain ⟨⟨T, kk, b', u'⟩, e1, e2⟩ := Option.map_eq_some_iff.mp e
    cases e2
    exact ⟨kk, b', by rw [← hps, List.getElem?_map, e1]; rfl, rfl⟩
  · obtain ⟨o', xs', n', z1, z2, z3, z4⟩ := kis I1.hok (fun _ _ z => z) z hz
    exact ⟨o', xs', n', hkp _ _ (Nat.ne_of_lt (Heap.lt_size z1)) (by simp) z1, z2, z3, z4⟩
  · -- the dict stands, pinned
    have I2 : Inv X pins σ H1 { s1 with heap := h', toks := tk } := I1.kept (t' := tk) fun b o e => hkp b o (by simp) e
    obtain ⟨od, es, ep, hod, hd1, hd2, hd3, _, hd5⟩ := id hd
    have hfr : H1 s1.heap.objs.size = none := I1.hok.fresh (Nat.le_refl _)
    have I3 : Inv X (pins ++ [(s1.heap.objs.size, od)]) σ H1 { s1 with heap := h', toks := tk } := I2.pins_of fun z hz => by
      rcases List.mem_append.mp hz with hz | hz
      · exact I2.pin z (List.mem_append_right _ hz)
      · rw [List.mem_singleton] at hz
        subst hz
        exact ⟨hod, hfr, Nat.ne_of_gt I1.lt, I1.nofs (Nat.le_refl _), fun v e => by rw [hd2] at e; cases e⟩
    refine thn (hb.run _ _ σ H1 (fun y H2 => ∃ h2 ys, VR (gOf X cm hidn) H2 h2 (.tup ys) y ∧ Stp h1 H1 h2 H2 ∧ HR (gOf X cm hidn) H2 h2 ∧ ys.all Dm.key1 = true ∧ (∃ ks v, Dm.D.tup [.tup ks, v] ∈ l ∧ Dm.eqvL ks ys = true) ∧ ∀ ks v, Dm.D.tup [.tup ks, v] ∈ l → Dm.eqvL ks ys = true → P v h2) I3
      ⟨ss, h1, E, _, sr.stp hr st1, hr1, ac.stp hac st1, q1, fun d h2 v H2 ⟨ys, ed, k1, k2, k3⟩ s2 r2 x2 => by subst ed; exact ⟨h2, ys, x2, s2, r2, k1, k2, k3⟩⟩) fun u2 s2 ⟨y, H2, I4, r4, h2, ys, xy, st2, hr2, ky, ⟨ks0, v0, m0, e0⟩, qq⟩ => ?_
    obtain ⟨b2, ws, rfl, hb2, _, xb⟩ := vT xy
    obtain ⟨kk, hkk, rfl⟩ := ks_val ky xb
    cases r4
    have hod2 : s2.heap.get? s1.heap.objs.size = some od := (I4.pin (s1.heap.objs.size, od) (List.mem_append_right _ (List.mem_append_right _ List.mem_cons_self))).1
    have kp2 : ∀ b' ws, TupA H1 b' ws → TupA H2 b' ws := fun b' ws z => z.stp' hr1.noT st2
    have hd' : s2.heap.DictOfH (tupleKind (mixKind X.prog X.w)) s1.heap.objs.size (storedAllH [] ps) := hd.at' (fun o' e => by rw [hod] at e; cases e; exact hod2) fun z hz =>
      storedAllH_keys (P := fun k b => (tupleKind (mixKind X.prog X.w)).is s2.heap k b) (fun z hz => absurd hz (by simp)) (fun z hz => kis I4.hok kp2 z hz) z hz
    obtain ⟨T0, kk0, b0, u0, mq, hk0⟩ := hq.mem m0
    have ek0 : kk0 = kk := by
      have := ksR_eqv hk0 hkk
      rw [e0] at this
      simpa using this.symm
    obtain ⟨pv, hpv⟩ := at_all ps [] kk (.inl ⟨(kk0, b0, u0), by rw [← hps]; exact List.mem_map.mpr ⟨_, mq, rfl⟩, ek0⟩)
    rcases at_allV ps [] kk hpv with ⟨z, hz, ez1, ez2⟩ | ⟨p', e', _⟩
    · rw [← hps] at hz
      obtain ⟨w, hw, rfl⟩ := List.mem_map.mp hz
      obtain ⟨j, hj⟩ := List.mem_iff_getElem?.mp hw
      obtain ⟨_, _, _, ks1, v1, vv, m1, hk1, xv1, rv1⟩ := hq.get (T := w.1) (kk := w.2.1) (b := w.2.2.1) (u := w.2.2.2) hj
      have e1 : Dm.eqvL ks1 ys = true := by
        rw [ksR_eqv hk1 hkk]
        simpa using ez1
      refine tail_any hd'.typeIs PySem.F.slot_dict_getitem.lookup (wpAny_getItem_heap (tupleKind_room_in1 (by omega)) (key_ofA I4.hok hb2) hd' hpv ?_) (hs _ _)
      rw [← ez2]
      exact ⟨vv, H2, (I4.unpinned).tok _, rv1, k _ _ _ _ (qq ks1 v1 m1 e1) (st1.trans st2) hr2 (VR.stp hr1 st2 _ _ xv1)⟩
    · simp [atKey] at e'
variable {R : Slt}
theorem dg_dstI {o i : Expr} {pos : Pos} {to tk : Dm.TE} (hu : X.A.units + 1 < cLine) (ho : PE X o (LE (gOf X cm hidn) ac to)) (hi : PE X i (LE (gOf X cm hidn) ac tk))
    (ha : ∀ v, assign (.Subscript o i pos) X.env v = (do
      let ov ← holding [v] (eval o X.env)
      let iv ← holding [v, ov] (eval i X.env)
      standAt pos
      holding [v, ov, iv] (setItem ov iv v)
      release [v, ov, iv] []) := by intro _; rfl) : PG X (.Subscript o i pos) (LG (gOf X cm hidn) ac R (Dm.gDstI to tk)) :=
  (pg_sub ho hi (set_dict hu) ha).imp fun v σ H Q q => LG.obj (f := fun d x y h2 P => ∃ p l, x = .ref p ∧ h2 p = some (.dct false l) ∧ Dm.keyOk false y = true ∧ l.length < Dm.lim ∧ P (Dm.up h2 p (.dct false (Dm.putD y d l)))) q
    fun d x y h1 H1 ov iv vv P K xd xx xy hr ⟨p, l, ex, hp, ky, hl, q⟩ k => by
      subst ex
      obtain rfl := vR xx
      obtain ⟨H', g, st, r'⟩ := dput_of hr hp xy xd ky hl fun ds e => by subst e; simp [Dm.keyOk] at ky
      exact ⟨p, H', rfl, g, k _ _ q st r'⟩
end
end Dr
end S_DKh
section S_PM
set_option linter.all false
set_option maxRecDepth 100000
namespace G
open Dm
/-- the dice: a list of the heap -/
def DiceAt (ns : List Int) (h : Hd) (p : Nat) : Prop := ∃ i m r : Int, 0 ≤ i ∧ h p = some (.lst [.scr (ns.map D.int), .int i, .int m, .int r])
/-- all but p stands as it stood -/
def Off (p : Nat) (h h' : Hd) : Prop := ∀ a, a ≠ p → h' a = h a
theorem Off.refl (p : Nat) (h : Hd) : Off p h h := fun _ _ => rfl
theorem Off.trans {p : Nat} {a b c : Hd} (x : Off p a b) (y : Off p b c) : Off p a c := fun q n => (y q n).trans (x q n)
theorem Off.up (p : Nat) (h : Hd) (o : HObj) : Off p h (Dm.up h p o) := fun a n => up_ne n
theorem DiceAt.ne {ns : List Int} {h : Hd} {p q : Nat} (d : DiceAt ns h p) (n : h q = none) : q ≠ p := fun z => by
  subst z
  obtain ⟨_, _, _, _, e⟩ := d
  rw [n] at e
  cases e
theorem DiceAt.off {ns : List Int} {h h' : Hd} {p : Nat} (d : DiceAt ns h p) (e : h' p = h p) : DiceAt ns h' p := by
  obtain ⟨i, m, r, a, b⟩ := d
  exact ⟨i, m, r, a, e.trans b⟩
structure Call where
  c : Int
  t : Int
  offs : List Int
  lo : Int
  hi : Int
def Call.d (k : Call) : D := .tup [.int k.c, .int k.t, .tup (k.offs.map D.int), .int k.lo, .int k.hi]
structure Call.Ok (n M : Int) (k : Call) : Prop where
  c0 : 0 ≤ k.c
  ct : k.c < k.t
  tn : k.t < n
  ne : k.offs ≠ []
  le : k.offs.length ≤ 4
  up : k.offs.Pairwise (· < ·)
  rg : ∀ o ∈ k.offs, 0 ≤ o ∧ o ≤ M
  lo0 : 0 ≤ k.lo
  lh : k.lo ≤ k.hi
  hM : k.hi ≤ M
theorem intsOf_map : ∀ ns : List Int, intsOf (ns.map D.int) = some ns
  | [] => rfl
  | i :: ns => by simp [intsOf, intsOf_map ns]
theorem nodup_len {ms xs : List Int} (h : ms.Pairwise (· < ·)) (hs : ∀ k, k ∈ ms → k ∈ xs) : ms.length ≤ xs.length := by
  induction ms generalizing xs with
  | nil => exact Nat.zero_le _
  | cons m ms ih =>
    rw [List.pairwise_cons] at h
    have hm := hs m List.mem_cons_self
    have := ih (xs := xs.erase m) h.2 fun k hk => by
      have hne : k ≠ m := fun e => by have := h.1 k hk; omega
      exact (List.mem_erase_of_ne hne).mpr (hs k (List.mem_cons_of_mem _ hk))
    rw [List.length_erase_of_mem hm] at this
    have := List.length_pos_of_mem hm
    simp only [List.length_cons]
    omega
def sysD (n : Int) (cs : List Call) : D := .tup [.int n, .tup (cs.map Call.d)]
structure SysOk (S C M : Int) (n : Int) (cs : List Call) : Prop where
  n1 : 1 ≤ n
  nS : n ≤ S
  len : (cs.length : Int) ≤ C
  cs : ∀ k ∈ cs, k.Ok n M
/-- all but p and q stands as it stood -/
def Off2 (p q : Nat) (h h' : Hd) : Prop := ∀ a, a ≠ p → a ≠ q → h' a = h a
theorem Off2.step {p q : Nat} {a b c : Hd} (x : Off2 p q a b) (y : Off p b c) : Off2 p q a c := fun z n m => (y z n).trans (x z n m)
theorem Off2.step2 {p q : Nat} {a b : Hd} {o : HObj} (x : Off2 p q a b) : Off2 p q a (up b q o) := fun z n m => (up_ne m).trans (x z n m)
/-- q is let go -/
theorem drop_sub (h : Hd) (q : Nat) : Sub (rm h q) h := fun a o e => by
  unfold rm at e
  split at e
  · cases e
  · exact e
theorem Off2.drop {p q : Nat} {h h' : Hd} (x : Off2 p q h h') (n : h q = none) : Off p h (rm h' q) := fun a na => by
  by_cases e : a = q
  · subst e; rw [rm_same, n]
  · rw [rm_ne e]; exact x a na e
theorem boolsOf_true : ∀ l : List D, boolsOf (l.filterMap fun _ => some (.bl true)) = some (l.map fun _ => true)
  | [] => rfl
  | d :: l => by
    show boolsOf (.bl true :: l.filterMap fun _ => some (.bl true)) = _
    rw [boolsOf, boolsOf_true l]
    rfl
theorem all_true {α : Type} (l : List α) : (l.map fun _ => true).all id = true := by simp
theorem zip_up : ∀ (x : Int) (l : List Int), (x :: l).Pairwise (· < ·) → ∀ d ∈ zipD ((x :: l).map D.int) (l.map D.int), ∃ a b : Int, d = .tup [.int a, .int b] ∧ a < b
  | x, [], _, d, hd => by simp [zipD] at hd
  | x, y :: l, h, d, hd => by
    simp only [List.map_cons, zipD, List.mem_cons] at hd
    rw [List.pairwise_cons] at h
    rcases hd with rfl | hd
    · exact ⟨x, y, rfl, h.1 y List.mem_cons_self⟩
    · exact zip_up y l h.2 d (by simpa using hd)
theorem cut_tail {α : Type} (x : α) (l : List α) : cutP (x :: l) (some 1) none = l := by
  simp [cutP, clampP]
theorem enum_mem : ∀ (l : List D) (i : Int) (d : D), d ∈ enumD i l → ∃ (j : Nat) (x : D), l[j]? = some x ∧ d = .tup [.int (i + j), x]
  | [], _, _, hd => by simp [enumD] at hd
  | x :: l, i, d, hd => by
    simp only [enumD, List.mem_cons] at hd
    rcases hd with rfl | hd
    · exact ⟨0, x, rfl, by simp⟩
    · obtain ⟨j, y, h1, rfl⟩ := enum_mem l (i + 1) d hd
      exact ⟨j + 1, y, by simpa using h1, by simp; omega⟩
/-- a for over items whose body goes on -/
theorem forL_all {ok : Hd → Prop} {g : TG} {b : TS} {P : En} {l : List D} {s : St} {h : Hd} (J : St → Prop) (hok : ok h)
    (hs : ∀ d ∈ l, ∀ s (K : St → Hd → Prop), J s → (∀ s3, J s3 → K s3 h) → g d s h (fun x h' => ∀ s', P.ex x s' h') fun s2 h2 => b { P with nx := K, ct := K, bk := P.nx } s2 h2)
    (hj : J s) (hd : ∀ s, J s → P.nx s h) : forL ok g b P l s h := by
  refine forL_ind (fun r s' h' => h' = h ∧ J s' ∧ ∀ d ∈ r, d ∈ l) ?_ ?_ l s h ⟨rfl, hj, fun _ z => z⟩
  · rintro d r s' h' K hK ⟨rfl, hj', hr⟩
    exact hs d (hr d List.mem_cons_self) s' _ hj' fun s3 hj3 => ⟨hok, hK s3 _ ⟨rfl, hj3, fun x hx => hr x (List.mem_cons_of_mem _ hx)⟩⟩
  · rintro s' h' ⟨rfl, hj', _⟩
    exact hd s' hj'
structure Ent where
  r : Int
  a : Int
  k : Nat
  j : Nat
  dl : Int
def Ent.d (e : Ent) : D := .tup [.int e.r, .int e.a, .int e.k, .int e.j, .int e.dl]
def Ent.key (e : Ent) : List D := [.int e.r, .int e.a, .int e.k, .int e.j]
structure Ent.Ok (m : Int) (cs : List Call) (e : Ent) : Prop where
  r0 : 0 ≤ e.r
  rm : e.r < m
  a0 : 0 ≤ e.a
  a9 : e.a ≤ 99
  at_ : ∃ c, cs[e.k]? = some c ∧ e.j < c.offs.length ∧ c.lo ≤ e.dl ∧ e.dl ≤ c.hi
theorem key_ints (e : Ent) : intsOf e.key = some [e.r, e.a, (e.k : Int), (e.j : Int)] := by simp [Ent.key, intsOf]
theorem cut4 (e : Ent) : cutP [D.int e.r, .int e.a, .int e.k, .int e.j, .int e.dl] none (some 4) = e.key := by simp [cutP, clampP, Ent.key]
theorem eqv_int (a b : Int) : eqv (.int a) (.int b) = decide (a = b) := by
  simp only [eqv]
  exact Bool.beq_eq_decide_eq a b
theorem eqvL_ints : ∀ a b : List Int, eqvL (a.map D.int) (b.map D.int) = decide (a = b)
  | [], [] => by simp [eqvL]
  | [], _ :: _ => by simp [eqvL]
  | _ :: _, [] => by simp [eqvL]
  | x :: a, y :: b => by
    simp only [List.map_cons, eqvL, eqv_int, eqvL_ints a b]
    by_cases h : x = y <;> by_cases h' : a = b <;> simp [h, h']
theorem eqv_tups (a b : List Int) : eqv (.tup (a.map D.int)) (.tup (b.map D.int)) = decide (a = b) := by
  simp only [eqv]
  exact eqvL_ints a b
/-- lists of ints of one length: neither is less, so they are the same -/
theorem lt_anti : ∀ a b : List Int, a.length = b.length → ltvL (a.map D.int) (b.map D.int) = false → ltvL (b.map D.int) (a.map D.int) = false → a = b
  | [], [], _, _, _ => rfl
  | [], _ :: _, h, _, _ => by simp at h
  | _ :: _, [], h, _, _ => by simp at h
  | x :: a, y :: b, h, h1, h2 => by
    simp only [List.map_cons, ltvL, eqv_int, ltv] at h1 h2
    by_cases e : x = y
    · subst e
      simp at h1 h2
      rw [lt_anti a b (by simpa using h) h1 h2]
    · have e' : ¬ y = x := fun z => e z.symm
      simp [e, e'] at h1 h2
      omega
theorem any_key {k : D} {l : List (D × D)} : (l.any fun p => eqv p.1 k) = (lkD k l).isSome := by
  induction l with
  | nil => rfl
  | cons p l ih =>
    obtain ⟨g, v⟩ := p
    simp only [List.any_cons, lkD, ih]
    by_cases h : eqv g k = true
    · simp [h]
    · simp [h]
/-- keys that == tells apart as = does -/
def KeyEq (K : D → Prop) : Prop := ∀ x y, K x → K y → (eqv x y = true ↔ x = y)
theorem keyEq_int : KeyEq fun d => ∃ i : Int, d = .int i := by
  rintro x y ⟨i, rfl⟩ ⟨j, rfl⟩
  rw [eqv_int]
  simp
theorem map_int_inj {a b : List Int} (h : a.map D.int = b.map D.int) : a = b := by
  have := congrArg intsOf h
  rw [intsOf_map, intsOf_map] at this
  exact Option.some.inj this
theorem keyEq_tup : KeyEq fun d => ∃ l : List Int, d = .tup (l.map D.int) := by
  rintro x y ⟨i, rfl⟩ ⟨j, rfl⟩
  rw [eqv_tups]
  simp
  exact ⟨fun h => by rw [h], fun h => map_int_inj h⟩
theorem lkD_put {K : D → Prop} (ke : KeyEq K) {y v k : D} {l : List (D × D)} (hy : K y) (hk : K k) (hl : ∀ p ∈ l, K p.1) : lkD k (putD y v l) = if eqv y k = true then some v else lkD k l := by
  have app : ∀ (l : List (D × D)), lkD y l = none → lkD k (l ++ [(y, v)]) = if eqv y k = true then (if lkD k l = none then some v else lkD k l) else lkD k l := by
    intro l
    induction l with
    | nil => intro _; simp [lkD]
    | cons p l ih =>
      obtain ⟨g, u⟩ := p
      intro h
      simp only [lkD] at h
      split at h
      · cases h
      · simp only [List.cons_append, lkD]
        rw [ih h]
        by_cases hg : eqv g k = true
        · simp [hg]
        · simp [hg]
  have mp : ∀ (l : List (D × D)), (∀ p ∈ l, K p.1) → lkD k (l.map fun p => if eqv p.1 y = true then (p.1, v) else p) = if eqv y k = true then (lkD k l).map (fun _ => v) else lkD k l := by
    intro l
    induction l with
    | nil => intro _; simp [lkD]
    | cons p l ih =>
      obtain ⟨g, u⟩ := p
      intro h
      have hg := h _ List.mem_cons_self
      have ih := ih fun p hp => h p (List.mem_cons_of_mem _ hp)
      simp only [List.map_cons]
      by_cases h1 : eqv g y = true
      · have e1 : g = y := (ke g y hg hy).mp h1
        subst e1
        simp only [h1, if_true, lkD, ih]
        by_cases h2 : eqv g k = true
        · simp [h2]
        · simp [h2]
      · simp only [h1, lkD, ih]
        by_cases h2 : eqv g k = true
        · have e2 : g = k := (ke g k hg hk).mp h2
          subst e2
          have h3 : ¬ eqv y g = true := fun z => h1 ((ke g y hg hy).mpr ((ke y g hy hg).mp z).symm)
          simp [h2, h3]
        · simp [h2]
  unfold putD
  rw [any_key]
  by_cases h : (lkD y l).isSome = true
  · rw [if_pos h, mp l hl]
    by_cases h2 : eqv y k = true
    · have e2 := (ke y k hy hk).mp h2
      subst e2
      rw [if_pos h2, if_pos h2]
      cases q : lkD y l with
      | none => simp [q] at h
      | some w => rfl
    · rw [if_neg h2, if_neg h2]
  · rw [if_neg h, app l (by simpa using h)]
    by_cases h2 : eqv y k = true
    · have e2 := (ke y k hy hk).mp h2
      subst e2
      have : lkD y l = none := by simpa using h
      simp [h2, this]
    · simp [h2]
theorem putD_keys {K : D → Prop} {y v : D} {l : List (D × D)} (hy : K y) (hl : ∀ p ∈ l, K p.1) : ∀ p ∈ putD y v l, K p.1 := by
  unfold putD
  split
  · intro p hp
    obtain ⟨q, hq, rfl⟩ := List.mem_map.mp hp
    have := hl q hq
    split <;> exact this
  · intro p hp
    rcases List.mem_append.mp hp with z | z
    · exact hl p z
    · rw [List.mem_singleton.mp z]; exact hy
theorem putD_le (y v : D) (l : List (D × D)) : (putD y v l).length ≤ l.length + 1 := by
  unfold putD
  split <;> simp
structure Arr where
  t : Int
  s : Int
  r : Int
  a : Int
  k : Int
  j : Int
deriving DecidableEq
def Arr.is (x : Arr) : List Int := [x.t, x.s, x.r, x.a, x.k, x.j]
def Arr.d (x : Arr) : D := .tup (x.is.map D.int)
theorem Arr.inj {x y : Arr} (h : x.is = y.is) : x = y := by
  cases x; cases y
  simp [Arr.is] at h
  simp [h]
theorem Arr.eqv (x y : Arr) : Dm.eqv x.d y.d = decide (x = y) := by
  unfold Arr.d
  rw [eqv_tups]
  by_cases h : x = y
  · subst h; simp
  · rw [decide_eq_false h, decide_eq_false fun z => h (Arr.inj z)]
theorem Arr.d_inj {x y : Arr} (h : x.d = y.d) : x = y := by
  unfold Arr.d at h
  injection h with h
  exact Arr.inj (map_int_inj h)
def mk6 : Mk := .tup [.int, .int, .int, .int, .int, .int]
theorem Arr.mk6 (x : Arr) : mkOk G.mk6 x.d = true := by simp [G.mk6, Arr.d, Arr.is, mkOk, mkOkL]
/-- the least -/
structure IsMin (l : List Arr) (x : Arr) : Prop where
  mem : x ∈ l
  le : ∀ y ∈ l, ltv y.d x.d = false
theorem IsMin.uniq {l : List Arr} {x y : Arr} (a : IsMin l x) (b : IsMin l y) : x = y := by
  have h1 := a.le y b.mem
  have h2 := b.le x a.mem
  simp only [Arr.d, ltv] at h1 h2
  exact Arr.inj (lt_anti _ _ (by simp [Arr.is]) h2 h1)
/-- min(l) -/
theorem min_arr {l : List Arr} {v : D} {h : Hd} {Q : QP} (hs : sqL h v = some (l.map Arr.d)) (ne : l ≠ []) (q : ∀ x, IsMin l x → Q x.d h) : bMin1 [v] h Q := by
  refine ⟨_, mk6, hs, by simpa using ne, by simp [mk6, mkDep, mkDepL], fun d hd => ?_, fun d hd hle => ?_⟩
  · obtain ⟨x, _, rfl⟩ := List.mem_map.mp hd
    exact x.mk6
  · obtain ⟨x, hx, rfl⟩ := List.mem_map.mp hd
    exact q x ⟨hx, fun y hy => hle _ (List.mem_map.mpr ⟨y, hy, rfl⟩)⟩
theorem plain_arr (x : Arr) : plain 49 x.d = true := by simp [Arr.d, Arr.is, plain, plainL]
theorem plain_arr50 (x : Arr) : plain 50 x.d = true := by simp [Arr.d, Arr.is, plain, plainL]
theorem plainL_arr : ∀ l : List Arr, plainL 50 (l.map Arr.d) = true
  | [] => by simp [plainL]
  | x :: l => by simp [plainL, plain_arr50, plainL_arr l]
theorem plainL_arr49 : ∀ l : List Arr, plainL 49 (l.map Arr.d) = true
  | [] => by simp [plainL]
  | x :: l => by simp [plainL, plain_arr, plainL_arr49 l]
/-- l.remove(x): one of them is gone -/
theorem rm_arr {x : Arr} : ∀ {l : List Arr}, l.Nodup → rmFst x.d (l.map Arr.d) = (l.filter fun y => decide (y ≠ x)).map Arr.d
  | [], _ => rfl
  | y :: l, h => by
    rw [List.nodup_cons] at h
    simp only [List.map_cons, rmFst, Arr.eqv]
    by_cases e : y = x
    · subst e
      have : (l.filter fun z => decide (z ≠ y)) = l := List.filter_eq_self.mpr fun z hz => by
        have : z ≠ y := fun e => by subst e; exact h.1 hz
        simpa using this
      rw [decide_eq_true rfl, if_pos rfl, List.filter_cons_of_neg (by simp), this]
    · simp [e, rm_arr h.2]
structure Ev where
  t : Int
  s : Int
  r : Int
  act : Bool
def Ev.d (e : Ev) : D := .tup [.int e.t, .int e.s, .int e.r, .bl e.act]
structure Sim where
  pend : List Arr
  ev : List Ev
  acts : Int → List (Int × Int)
def caller (cs : List Call) (k : Nat) : Option Int := cs[k]?.map (·.c)
def Sim.cnt (st : Sim) (s r : Int) : Nat := (st.acts s).countP fun a => decide (a.2 = r)
def Sim.memo (ws : Int → Int) (st : Sim) (s : Int) : Option Int := (st.acts s).getLast?.map fun a => a.1 + ws s
def Sim.quiet (ws : Int → Int) (st : Sim) (x : Arr) : Bool := match st.memo ws x.s with
  | none => false
  | some m => decide (x.t ≤ m)
def hit (cs : List Call) (x : Arr) (num : Nat) (e : Ent) : Bool := decide (e.r = x.r) && (decide (e.a = num) && decide (caller cs e.k = some x.s))
def arr1 (cs : List Call) (x : Arr) (e : Ent) : Arr := ⟨x.t + ((cs[e.k]?.bind fun c => c.offs[e.j]?).getD 0) + e.dl, (cs[e.k]?.map (·.t)).getD 0, x.r, e.a, e.k, e.j⟩
def Sim.news (cs : List Call) (es : List Ent) (st : Sim) (x : Arr) : List Arr := (es.filter (hit cs x (st.cnt x.s x.r))).map (arr1 cs x)
def Sim.rest (st : Sim) (x : Arr) : List Arr := st.pend.filter fun y => decide (y ≠ x)
def setA (f : Int → List (Int × Int)) (s : Int) (l : List (Int × Int)) : Int → List (Int × Int) := fun z => if z = s then l else f z
def Sim.step (cs : List Call) (ws : Int → Int) (es : List Ent) (st : Sim) (x : Arr) : Sim :=
  if st.quiet ws x = true then ⟨st.rest x, st.ev ++ [⟨x.t, x.s, x.r, false⟩], st.acts⟩
  else ⟨st.rest x ++ st.news cs es x, st.ev ++ [⟨x.t, x.s, x.r, true⟩], setA st.acts x.s (st.acts x.s ++ [(x.t, x.r)])⟩
theorem cnt_set (st : Sim) (x : Arr) (s r : Int) (pe : List Arr) (ev : List Ev) : (Sim.mk pe ev (setA st.acts x.s (st.acts x.s ++ [(x.t, x.r)]))).cnt s r = st.cnt s r + if s = x.s ∧ r = x.r then 1 else 0 := by
  unfold Sim.cnt setA
  simp only
  by_cases h : s = x.s
  · subst h
    rw [if_pos rfl, List.countP_append]
    by_cases h' : r = x.r
    · subst h'; simp
    · have : ¬ x.r = r := fun e => h' e.symm
      simp [h', this]
  · simp [h]
structure SimInv (n : Int) (cs : List Call) (st : Sim) : Prop where
  nd : st.pend.Nodup
  sv : ∀ y ∈ st.pend, 0 ≤ y.s ∧ y.s < n
  tv : ∀ y ∈ st.pend, 0 ≤ y.t
  msg : ∀ y ∈ st.pend, y.k = -1 ∨ ∃ (k : Nat) (c : Int), y.k = k ∧ caller cs k = some c ∧ y.a < st.cnt c y.r
/-- a schedule -/
structure SchOk (n m : Int) (cs : List Call) (es : List Ent) : Prop where
  ok : ∀ e ∈ es, e.Ok m cs
  up : es.Pairwise fun e f => ltvL e.key f.key = true
  nd : (es.map fun e => (e.r, e.a, e.k, e.j)).Nodup
  cok : ∀ c ∈ cs, c.Ok n 99
theorem countP_split {α : Type} {p q h : α → Bool} : ∀ l : List α, (∀ e ∈ l, p e = (q e || h e) ∧ (q e && h e) = false) → l.countP p = l.countP q + l.countP h
  | [], _ => rfl
  | e :: l, H => by
    have ih := countP_split l fun x hx => H x (List.mem_cons_of_mem _ hx)
    obtain ⟨h1, h2⟩ := H e List.mem_cons_self
    simp only [List.countP_cons, ih, h1]
    cases hq : q e <;> cases hh : h e <;> simp [hq, hh] at h2 ⊢ <;> omega
def Sim.left (cs : List Call) (es : List Ent) (st : Sim) : Nat := es.countP fun e => match caller cs e.k with
  | some c => decide ((st.cnt c e.r : Int) ≤ e.a)
  | none => false
def Sim.mu (cs : List Call) (es : List Ent) (st : Sim) : Nat := st.pend.length + st.left cs es
theorem rest_len {st : Sim} {x : Arr} (nd : st.pend.Nodup) (hx : x ∈ st.pend) : (st.rest x).length + 1 = st.pend.length := by
  unfold Sim.rest
  generalize st.pend = l at nd hx
  induction l with
  | nil => cases hx
  | cons y l ih =>
    rw [List.nodup_cons] at nd
    by_cases e : y = x
    · subst e
      have : (l.filter fun z => decide (z ≠ y)) = l := List.filter_eq_self.mpr fun z hz => by
        have : z ≠ y := fun e => by subst e; exact nd.1 hz
        simpa using this
      rw [List.filter_cons_of_neg (by simp), this]
      simp
    · rw [List.filter_cons_of_pos (by simpa using e)]
      have := ih nd.2 (by
        rcases List.mem_cons.mp hx with z | z
        · exact absurd z.symm e
        · exact z)
      simp only [List.length_cons]
      omega
theorem mu_step {cs : List Call} {ws : Int → Int} {es : List Ent} {st : Sim} {x : Arr} (nd : st.pend.Nodup) (hx : x ∈ st.pend) : (st.step cs ws es x).mu cs es < st.mu cs es := by
  have hr := rest_len nd hx
  unfold Sim.mu Sim.step
  split
  · simp only
    have : (Sim.mk (st.rest x) (st.ev ++ [⟨x.t, x.s, x.r, false⟩]) st.acts).left cs es = st.left cs es := rfl
    rw [this]
    omega
  · have e1 : st.left cs es = (Sim.mk (st.rest x ++ st.news cs es x) (st.ev ++ [⟨x.t, x.s, x.r, true⟩]) (setA st.acts x.s (st.acts x.s ++ [(x.t, x.r)]))).left cs es + es.countP (hit cs x (st.cnt x.s x.r)) := by
      refine countP_split es fun e _ => ?_
      unfold hit
      cases hc : caller cs e.k with
      | none => simp
      | some c =>
        simp only [cnt_set]
        by_cases h1 : c = x.s
        · by_cases h2 : e.r = x.r
          · subst h1
            simp only [h2, and_self, if_true, decide_true, Bool.true_and, Bool.and_true]
            constructor
            · by_cases h3 : ((st.cnt x.s x.r : Nat) : Int) ≤ e.a
              · by_cases h4 : e.a = (st.cnt x.s x.r : Nat)
                · simp [h4]
                · have : ((st.cnt x.s x.r + 1 : Nat) : Int) ≤ e.a := by omega
                  simp [h3]
                  omega
              · have h5 : ¬ ((st.cnt x.s x.r + 1 : Nat) : Int) ≤ e.a := by omega
                have h6 : ¬ e.a = (st.cnt x.s x.r : Nat) := by omega
                simp [h3, h6]
                omega
            · by_cases h4 : e.a = (st.cnt x.s x.r : Nat)
              · have h5 : ¬ ((st.cnt x.s x.r + 1 : Nat) : Int) ≤ e.a := by omega
                simp
                omega
              · simp [h4]
          · simp [h2]
        · simp [h1]
    have e2 : (st.news cs es x).length = es.countP (hit cs x (st.cnt x.s x.r)) := by
      unfold Sim.news
      rw [List.length_map, List.countP_eq_length_filter]
    simp only [List.length_append]
    omega
theorem rest_mem {st : Sim} {x y : Arr} (h : y ∈ st.rest x) : y ∈ st.pend ∧ y ≠ x := by
  unfold Sim.rest at h
  have := List.mem_filter.mp h
  exact ⟨this.1, by simpa using this.2⟩
theorem news_mem {cs : List Call} {es : List Ent} {st : Sim} {x y : Arr} (h : y ∈ st.news cs es x) : ∃ e ∈ es, e.r = x.r ∧ e.a = (st.cnt x.s x.r : Nat) ∧ caller cs e.k = some x.s ∧ y = arr1 cs x e := by
  unfold Sim.news at h
  obtain ⟨e, he, rfl⟩ := List.mem_map.mp h
  obtain ⟨h1, h2⟩ := List.mem_filter.mp he
  unfold hit at h2
  simp only [Bool.and_eq_true, decide_eq_true_iff] at h2
  exact ⟨e, h1, h2.1, h2.2.1, h2.2.2, rfl⟩
theorem nodup_map_of {α β : Type} {f : α → β} : ∀ {l : List α}, l.Nodup → (∀ a ∈ l, ∀ b ∈ l, f a = f b → a = b) → (l.map f).Nodup
  | [], _, _ => by simp
  | a :: l, h, hi => by
    rw [List.nodup_cons] at h
    rw [List.map_cons, List.nodup_cons]
    refine ⟨fun hm => ?_, nodup_map_of h.2 fun x hx y hy => hi x (List.mem_cons_of_mem _ hx) y (List.mem_cons_of_mem _ hy)⟩
    obtain ⟨b, hb, e⟩ := List.mem_map.mp hm
    have := hi b (List.mem_cons_of_mem _ hb) a List.mem_cons_self e
    subst this
    exact h.1 hb
theorem key_inj {es : List Ent} (nd : (es.map fun e => (e.r, e.a, e.k, e.j)).Nodup) {e f : Ent} (he : e ∈ es) (hf : f ∈ es) (h : (e.r, e.a, e.k, e.j) = (f.r, f.a, f.k, f.j)) : e = f := by
  induction es with
  | nil => cases he
  | cons g es ih =>
    rw [List.map_cons, List.nodup_cons] at nd
    rcases List.mem_cons.mp he with rfl | he'
    · rcases List.mem_cons.mp hf with rfl | hf'
      · rfl
      · exact absurd (List.mem_map.mpr ⟨f, hf', h.symm⟩) nd.1
    · rcases List.mem_cons.mp hf with rfl | hf'
      · exact absurd (List.mem_map.mpr ⟨e, he', h⟩) nd.1
      · exact ih nd.2 he' hf'
theorem nodup_of_map {α β : Type} (f : α → β) : ∀ {l : List α}, (l.map f).Nodup → l.Nodup
  | [], _ => List.nodup_nil
  | a :: l, h => by
    rw [List.map_cons, List.nodup_cons] at h
    rw [List.nodup_cons]
    exact ⟨fun z => h.1 (List.mem_map.mpr ⟨a, z, rfl⟩), nodup_of_map f h.2⟩
theorem inv_step {n m : Int} {cs : List Call} {ws : Int → Int} {es : List Ent} {st : Sim} {x : Arr} (sch : SchOk n m cs es) (I : SimInv n cs st) (hx : x ∈ st.pend) : SimInv n cs (st.step cs ws es x) := by
  unfold Sim.step
  have rnd : (st.rest x).Nodup := I.nd.filter _
  split
  · exact ⟨rnd, fun y hy => I.sv y (rest_mem hy).1, fun y hy => I.tv y (rest_mem hy).1, fun y hy => I.msg y (rest_mem hy).1⟩
  · refine ⟨?_, ?_, ?_, ?_⟩
    · show (st.rest x ++ st.news cs es x).Nodup
      rw [List.nodup_append]
      refine ⟨rnd, ?_, ?_⟩
      · unfold Sim.news
        refine nodup_map_of ((nodup_of_map _ sch.nd).filter _) fun e he f hf h => ?_
        obtain ⟨e1, e2⟩ := List.mem_filter.mp he
        obtain ⟨f1, f2⟩ := List.mem_filter.mp hf
        unfold hit at e2 f2
        simp only [Bool.and_eq_true, decide_eq_true_iff] at e2 f2
        refine key_inj sch.nd e1 f1 ?_
        have hk : e.k = f.k := by
          have := congrArg Arr.k h
          simp [arr1] at this
          omega
        have hj : e.j = f.j := by
          have := congrArg Arr.j h
          simp [arr1] at this
          omega
        rw [e2.1, f2.1, e2.2.1, f2.2.1, hk, hj]
      · intro y hy z hz e
        subst e
        obtain ⟨f, hf, h1, h2, h3, e⟩ := news_mem hz
        rcases I.msg y (rest_mem hy).1 with q | ⟨k, c, q1, q2, q3⟩
        · rw [e] at q; simp [arr1] at q
        · rw [e] at q1 q3
          simp [arr1] at q1 q3
          have : f.k = k := by omega
          subst this
          rw [h3] at q2
          cases q2
          omega
    · intro y hy
      rcases List.mem_append.mp hy with z | z
      · exact I.sv y (rest_mem z).1
      · obtain ⟨f, hf, h1, h2, h3, e⟩ := news_mem z
        unfold caller at h3
        cases hc : cs[f.k]? with
        | none => simp [hc] at h3
        | some c =>
          have ok := sch.cok c (List.mem_of_getElem? hc)
          have es' : y.s = c.t := by rw [e]; simp [arr1, hc]
          have := ok.c0
          have := ok.ct
          have := ok.tn
          rw [es']
          omega
    · intro y hy
      rcases List.mem_append.mp hy with z | z
      · exact I.tv y (rest_mem z).1
      · obtain ⟨f, hf, h1, h2, h3, e⟩ := news_mem z
        obtain ⟨_, _, _, _, c, hc, hj, hl, hh⟩ := sch.ok f hf
        have ok := sch.cok c (List.mem_of_getElem? hc)
        have h0 := I.tv x hx
        have ho := (ok.rg c.offs[f.j] (List.getElem_mem hj)).1
        have hlo := ok.lo0
        have et : y.t = x.t + c.offs[f.j] + f.dl := by rw [e]; simp [arr1, hc, hj]
        rw [et]
        omega
    · intro y hy
      rcases List.mem_append.mp hy with z | z
      · rcases I.msg y (rest_mem z).1 with q | ⟨k, c, q1, q2, q3⟩
        · exact .inl q
        · refine .inr ⟨k, c, q1, q2, ?_⟩
          rw [cnt_set]
          omega
      · obtain ⟨f, hf, h1, h2, h3, e⟩ := news_mem z
        refine .inr ⟨f.k, x.s, by rw [e]; rfl, h3, ?_⟩
        rw [cnt_set]
        have ea : y.a = f.a := by rw [e]; rfl
        have er : y.r = x.r := by rw [e]; rfl
        rw [ea, er, h2]
        simp
        omega
/-- a whole run -/
inductive Run (cs : List Call) (ws : Int → Int) (es : List Ent) : Sim → Sim → Prop where
  | done {st : Sim} : st.pend = [] → Run cs ws es st st
  | step {st st' : Sim} {x : Arr} : IsMin st.pend x → Run cs ws es (st.step cs ws es x) st' → Run cs ws es st st'
theorem Run.uniq {cs : List Call} {ws : Int → Int} {es : List Ent} {st a b : Sim} (x : Run cs ws es st a) (y : Run cs ws es st b) : a = b := by
  induction x with
  | done e =>
    cases y with
    | done _ => rfl
    | step m _ => rw [e] at m; exact absurd m.mem (by simp)
  | step m _ ih =>
    cases y with
    | done e => rw [e] at m; exact absurd m.mem (by simp)
    | step m' r' =>
      rw [m.uniq m'] at ih
      exact ih r'
def arr0 : Nat → List Int → List Arr
  | _, [] => []
  | i, t :: ts => ⟨t, 0, i, 0, -1, 0⟩ :: arr0 (i + 1) ts
def sim0 (ts : List Int) : Sim := ⟨arr0 0 ts, [], fun _ => []⟩
def wsF (ws : List Int) (s : Int) : Int := (ws[s.toNat]?).getD 0
theorem arr0_mem : ∀ (ts : List Int) (i : Nat) (y : Arr), y ∈ arr0 i ts → y.k = -1 ∧ y.s = 0 ∧ (i : Int) ≤ y.r
  | [], _, _, h => by cases h
  | t :: ts, i, y, h => by
    rcases List.mem_cons.mp h with rfl | h
    · exact ⟨rfl, rfl, Int.le_refl _⟩
    · obtain ⟨a, b, c⟩ := arr0_mem ts (i + 1) y h
      exact ⟨a, b, by omega⟩
theorem arr0_nodup : ∀ (ts : List Int) (i : Nat), (arr0 i ts).Nodup
  | [], _ => List.nodup_nil
  | t :: ts, i => by
    unfold arr0
    rw [List.nodup_cons]
    refine ⟨fun h => ?_, arr0_nodup ts (i + 1)⟩
    have := (arr0_mem ts (i + 1) _ h).2.2
    simp at this
    omega
theorem arr0_t : ∀ (ts : List Int) (i : Nat) (y : Arr), (∀ t ∈ ts, 0 ≤ t) → y ∈ arr0 i ts → 0 ≤ y.t
  | [], _, _, _, h => by cases h
  | t :: ts, i, y, ht, h => by
    rcases List.mem_cons.mp h with rfl | h
    · exact ht t List.mem_cons_self
    · exact arr0_t ts (i + 1) y (fun u hu => ht u (List.mem_cons_of_mem _ hu)) h
theorem inv0 {n : Int} {cs : List Call} {ts : List Int} (hn : 1 ≤ n) (ht : ∀ t ∈ ts, 0 ≤ t) : SimInv n cs (sim0 ts) :=
  ⟨arr0_nodup ts 0, fun y hy => by have := arr0_mem ts 0 y hy; omega, fun y hy => arr0_t ts 0 y ht hy, fun y hy => .inl (arr0_mem ts 0 y hy).1⟩
/-- the law's own memory and counts -/
structure MemAt (n : Int) (ws : List Int) (st : Sim) (md cd : List (D × D)) : Prop where
  mkk : ∀ p ∈ md, ∃ i : Int, p.1 = .int i
  ck : ∀ p ∈ cd, ∃ l : List Int, p.1 = .tup (l.map D.int)
  m : ∀ s : Int, lkD (.int s) md = (st.memo (wsF ws) s).map D.int
  c : ∀ s r : Int, lkD (.tup ([s, r].map D.int)) cd = if st.cnt s r = 0 then none else some (.int (st.cnt s r))
  ml : md.length ≤ st.ev.length
  cl : cd.length ≤ st.ev.length
theorem arr0_rng : ∀ (ts : List Int) (i : Nat), arr0 i ts = (List.range ts.length).map fun k => (⟨(ts[k]?).getD 0, 0, ((i + k : Nat) : Int), 0, -1, 0⟩ : Arr)
  | [], _ => rfl
  | t :: ts, i => by
    unfold arr0
    rw [arr0_rng ts (i + 1), List.length_cons, List.range_succ_eq_map, List.map_cons, List.map_map]
    congr 1
    apply List.map_congr_left
    intro k _
    simp
    omega
/-- how the law's player stands -/
structure PlAt (n : Int) (ws : List Int) (h : Hd) (st : Sim) (h' : Hd) (po pe pm pc : Nat) : Prop where
  sub : Sub h h'
  no : h po = none
  ne : h pe = none
  nm : h pm = none
  nc : h pc = none
  d1 : po ≠ pe
  d2 : po ≠ pm
  d3 : po ≠ pc
  d4 : pe ≠ pm
  d5 : pe ≠ pc
  d6 : pm ≠ pc
  ho : h' po = some (.lst (st.pend.map Arr.d))
  he : h' pe = some (.lst (st.ev.map Ev.d))
  mem : ∃ md cd, h' pm = some (.dct false md) ∧ h' pc = some (.dct true cd) ∧ MemAt n ws st md cd
theorem ne_of_some' {h : Hd} {a b : Nat} {o : HObj} (x : h a = some o) (y : h b = none) : b ≠ a := fun e => by subst e; rw [x] at y; cases y
theorem sub_none {h h' : Hd} {p : Nat} (s : Sub h h') (n : h' p = none) : h p = none := by
  cases q : h p with
  | none => rfl
  | some o => rw [s p o q] at n; cases n
theorem ix_sys1 {n : Int} {cs : List Call} {h : Hd} {Q : QP} : oIx (sysD n cs) (.int 1) h Q ↔ Q (.tup (cs.map Call.d)) h := by
  simp [sysD, oIx, ixOk, ixP]
theorem ix_sys0 {n : Int} {cs : List Call} {h : Hd} {Q : QP} : oIx (sysD n cs) (.int 0) h Q ↔ Q (.int n) h := by
  simp [sysD, oIx, ixOk, ixP]
theorem ix_calls {cs : List Call} {k : Nat} {ca : Call} {h : Hd} {Q : QP} (e : cs[k]? = some ca) : oIx (.tup (cs.map Call.d)) (.int (k : Int)) h Q ↔ Q ca.d h := by
  have hl : k < cs.length := (List.getElem?_eq_some_iff.mp e).1
  have : (if (k : Int) < 0 then (k : Int) + cs.length else k).toNat = k := by rw [if_neg (by omega)]; omega
  simp [oIx, ixOk, ixP, this, e]
  exact fun _ => hl
theorem ix_ints {os : List Int} {k : Nat} {o : Int} {h : Hd} {Q : QP} (e : os[k]? = some o) : oIx (.tup (os.map D.int)) (.int (k : Int)) h Q ↔ Q (.int o) h := by
  have hl : k < os.length := (List.getElem?_eq_some_iff.mp e).1
  have : (if (k : Int) < 0 then (k : Int) + os.length else k).toNat = k := by rw [if_neg (by omega)]; omega
  simp [oIx, ixOk, ixP, this, e]
  exact fun _ => hl
theorem ix_c0 {c : Call} {h : Hd} {Q : QP} : oIx c.d (.int 0) h Q ↔ Q (.int c.c) h := by simp [Call.d, oIx, ixOk, ixP]
theorem ix_c1 {c : Call} {h : Hd} {Q : QP} : oIx c.d (.int 1) h Q ↔ Q (.int c.t) h := by simp [Call.d, oIx, ixOk, ixP]
theorem ix_c2 {c : Call} {h : Hd} {Q : QP} : oIx c.d (.int 2) h Q ↔ Q (.tup (c.offs.map D.int)) h := by simp [Call.d, oIx, ixOk, ixP]
def slots (sy w t e : D) (po pe pm pc : Nat) (a b c d f g i j k l m n o : Option D) : St := [some sy, some w, some t, some e, some (.ref po), some (.ref pe), some (.ref pm), some (.ref pc), a, b, c, d, f, g, i, j, k, l, m, n, o]
def actD (a : Int × Int) : D := .tup [.int a.1, .int a.2]
def simF (n : Int) (cs : List Call) (ws : List Int) (pd pp pe pa : Nat) : HObj := .ins "Simulation" [("system", sysD n cs), ("windows", .tup (ws.map D.int)), ("delays", .ref pd), ("pending", .ref pp), ("events", .ref pe), ("acts", .ref pa)]
structure SimAt (n : Int) (cs : List Call) (ws : List Int) (es : List Ent) (h : Hd) (p pd pp pe pa : Nat) (qs : List Nat) (st : Sim) : Prop where
  ob : h p = some (simF n cs ws pd pp pe pa)
  dl : h pd = some (.dct true (es.map fun e => (.tup e.key, .int e.dl)))
  pen : h pp = some (.lst (st.pend.map Arr.d))
  ev : h pe = some (.lst (st.ev.map Ev.d))
  ac : h pa = some (.lst (qs.map D.ref))
  ql : (qs.length : Int) = n
  qa : ∀ (i : Nat) (q : Nat), qs[i]? = some q → h q = some (.lst ((st.acts i).map actD))
  nd : (p :: pd :: pp :: pe :: pa :: qs).Nodup
theorem ix_refs {h : Hd} {pa : Nat} {qs : List Nat} {s : Int} {q : Nat} {Q : QP} (ha : h pa = some (.lst (qs.map D.ref))) (s0 : 0 ≤ s) (e : qs[s.toNat]? = some q) : oIx (.ref pa) (.int s) h Q ↔ Q (.ref q) h := by
  have hl : s.toNat < qs.length := (List.getElem?_eq_some_iff.mp e).1
  have h1 : (if s < 0 then s + qs.length else s).toNat = s.toNat := by rw [if_neg (by omega)]
  simp [oIx, ha, ixOk, ixP, h1, e]
  intro _
  omega
theorem plainL_acts : ∀ l : List (Int × Int), plainL 49 (l.map actD) = true
  | [] => by simp [plainL]
  | x :: l => by simp [plainL, plain, actD, plainL_acts l]
def keyB (r a : Int) (k j : Nat) (e : Ent) : Bool := decide ([e.r, e.a, (e.k : Int), (e.j : Int)] = [r, a, (k : Int), (j : Int)])
def look (es : List Ent) (r a : Int) (k j : Nat) : Option Int := (es.find? (keyB r a k j)).map (·.dl)
theorem lk_look (r a : Int) (k j : Nat) : ∀ es : List Ent, lkD (.tup [.int r, .int a, .int k, .int j]) (es.map fun e => (.tup e.key, .int e.dl)) = (look es r a k j).map D.int
  | [] => rfl
  | e :: es => by
    have h := eqv_tups [e.r, e.a, (e.k : Int), (e.j : Int)] [r, a, (k : Int), (j : Int)]
    simp only [List.map_cons, List.map_nil] at h
    simp only [List.map_cons, lkD, Ent.key]
    rw [h]
    unfold look
    rw [List.find?_cons]
    unfold keyB
    by_cases q : [e.r, e.a, (e.k : Int), (e.j : Int)] = [r, a, (k : Int), (j : Int)]
    · rw [decide_eq_true q, if_pos rfl]; rfl
    · rw [decide_eq_false q, if_neg (by simp)]
      exact lk_look r a k j es
/-- what a call's attempts bring -/
def inn (es : List Ent) (x : Arr) (num : Nat) (k : Nat) (c : Call) : Nat → List Int → List Arr
  | _, [] => []
  | j, o :: os => (match look es x.r num k j with
    | some dl => [⟨x.t + o + dl, c.t, x.r, num, k, j⟩]
    | none => []) ++ inn es x num k c (j + 1) os
def outn (es : List Ent) (x : Arr) (num : Nat) : Nat → List Call → List Arr
  | _, [] => []
  | k, c :: cs => (if c.c = x.s then inn es x num k c 0 c.offs else []) ++ outn es x num (k + 1) cs
def reqF (r : Int) : D → Option D
  | .tup [a, .int b] => if b = r then some (.tup [a, .int b]) else none
  | _ => none
theorem filt_cnt (r : Int) : ∀ l : List (Int × Int), ((l.map actD).filterMap (reqF r)).length = l.countP fun a => decide (a.2 = r)
  | [] => rfl
  | a :: l => by
    have ih := filt_cnt r l
    simp only [List.map_cons, List.filterMap_cons, actD, List.countP_cons, reqF] at ih ⊢
    by_cases h : a.2 = r
    · simp [h]; simpa using ih
    · simp [h]; simpa using ih
theorem nodup_ix {l : List Nat} (h : l.Nodup) {i j a : Nat} (x : l[i]? = some a) (y : l[j]? = some a) : i = j := by
  obtain ⟨hi, e1⟩ := List.getElem?_eq_some_iff.mp x
  obtain ⟨hj, e2⟩ := List.getElem?_eq_some_iff.mp y
  have pw := List.pairwise_iff_getElem.mp h
  rcases Nat.lt_trichotomy i j with c | c | c
  · exact absurd (e1.trans e2.symm) (pw i j hi hj c)
  · exact c
  · exact absurd (e2.trans e1.symm) (pw j i hj hi c)
theorem inn_len (es : List Ent) (x : Arr) (num k : Nat) (c : Call) : ∀ (os : List Int) (j : Nat), (inn es x num k c j os).length ≤ os.length
  | [], _ => Nat.zero_le _
  | o :: os, j => by
    have := inn_len es x num k c os (j + 1)
    unfold inn
    rw [List.length_append, List.length_cons]
    split <;> simp <;> omega
theorem outn_len (es : List Ent) (x : Arr) (num : Nat) : ∀ (cs : List Call) (k : Nat), (∀ c ∈ cs, c.offs.length ≤ 4) → (outn es x num k cs).length ≤ 4 * cs.length
  | [], _, _ => Nat.zero_le _
  | c :: cs, k, h => by
    have := outn_len es x num cs (k + 1) fun d hd => h d (List.mem_cons_of_mem _ hd)
    have h4 := h c List.mem_cons_self
    have := inn_len es x num k c c.offs 0
    unfold outn
    rw [List.length_append, List.length_cons]
    split <;> simp <;> omega
def kjLt (x y : Arr) : Prop := x.k < y.k ∨ (x.k = y.k ∧ x.j < y.j)
theorem eq_sorted {α : Type} {R : α → α → Prop} (as : ∀ a b, R a b → R b a → False) : ∀ l m : List α, l.Pairwise R → m.Pairwise R → (∀ x, x ∈ l ↔ x ∈ m) → l = m
  | [], [], _, _, _ => rfl
  | [], b :: m, _, _, h => by have := (h b).mpr List.mem_cons_self; cases this
  | a :: l, [], _, _, h => by have := (h a).mp List.mem_cons_self; cases this
  | a :: l, b :: m, hl, hm, h => by
    rw [List.pairwise_cons] at hl hm
    have e : a = b := by
      rcases List.mem_cons.mp ((h a).mp List.mem_cons_self) with q | q
      · exact q
      · rcases List.mem_cons.mp ((h b).mpr List.mem_cons_self) with q' | q'
        · exact q'.symm
        · exact (as _ _ (hl.1 b q') (hm.1 a q)).elim
    subst e
    rw [eq_sorted as l m hl.2 hm.2 fun x => ?_]
    constructor
    · intro hx
      rcases List.mem_cons.mp ((h x).mp (List.mem_cons_of_mem _ hx)) with q | q
      · subst q; exact (as _ _ (hl.1 x hx) (hl.1 x hx)).elim
      · exact q
    · intro hx
      rcases List.mem_cons.mp ((h x).mpr (List.mem_cons_of_mem _ hx)) with q | q
      · subst q; exact (as _ _ (hm.1 x hx) (hm.1 x hx)).elim
      · exact q
theorem kj_as (a b : Arr) (x : kjLt a b) (y : kjLt b a) : False := by
  unfold kjLt at x y
  omega
theorem look_iff {es : List Ent} (nd : (es.map fun e => (e.r, e.a, e.k, e.j)).Nodup) {r a : Int} {k j : Nat} {dl : Int} : look es r a k j = some dl ↔ ∃ e ∈ es, e.r = r ∧ e.a = a ∧ e.k = k ∧ e.j = j ∧ e.dl = dl := by
  unfold look
  have kb : ∀ e : Ent, keyB r a k j e = true ↔ (e.r = r ∧ e.a = a ∧ e.k = k ∧ e.j = j) := fun e => by
    unfold keyB
    simp
    omega
  constructor
  · intro h
    rw [Option.map_eq_some_iff] at h
    obtain ⟨e, h1, h2⟩ := h
    have h3 := List.find?_some h1
    rw [kb] at h3
    exact ⟨e, List.mem_of_find?_eq_some h1, h3.1, h3.2.1, h3.2.2.1, h3.2.2.2, h2⟩
  · rintro ⟨e, he, h1, h2, h3, h4, h5⟩
    cases hf : es.find? (keyB r a k j) with
    | none =>
      rw [List.find?_eq_none] at hf
      exact absurd ((kb e).mpr ⟨h1, h2, h3, h4⟩) (hf e he)
    | some f =>
      have h6 := List.find?_some hf
      rw [kb] at h6
      have : e = f := key_inj nd he (List.mem_of_find?_eq_some hf) (by rw [h1, h2, h3, h4, h6.1, h6.2.1, h6.2.2.1, h6.2.2.2])
      subst this
      rw [Option.map_some, h5]
theorem inn_mem {es : List Ent} {x : Arr} {num k : Nat} {c : Call} {y : Arr} : ∀ (os : List Int) (j : Nat), y ∈ inn es x num k c j os ↔ ∃ (i : Nat) (o dl : Int), os[i]? = some o ∧ look es x.r num k (j + i) = some dl ∧ y = ⟨x.t + o + dl, c.t, x.r, num, k, ((j + i : Nat) : Int)⟩
  | [], j => by simp [inn]
  | o :: os, j => by
    unfold inn
    rw [List.mem_append, inn_mem os (j + 1)]
    constructor
    · rintro (h | ⟨i, o', dl, h1, h2, h3⟩)
      · cases q : look es x.r num k j with
        | none => rw [q] at h; cases h
        | some dl =>
          rw [q] at h
          exact ⟨0, o, dl, rfl, q, List.mem_singleton.mp h⟩
      · refine ⟨i + 1, o', dl, by simpa using h1, ?_, ?_⟩
        · rw [← h2]; congr 1; omega
        · rw [h3]; simp; omega
    · rintro ⟨i, o', dl, h1, h2, h3⟩
      cases i with
      | zero =>
        left
        have h2' : look es x.r num k j = some dl := h2
        rw [h2']
        simp at h1
        subst h1
        exact List.mem_singleton.mpr h3
      | succ i =>
        right
        refine ⟨i, o', dl, by simpa using h1, ?_, ?_⟩
        · rw [← h2]; congr 1; omega
        · rw [h3]; simp; omega
theorem inn_up {es : List Ent} {x : Arr} {num k : Nat} {c : Call} : ∀ (os : List Int) (j : Nat), (inn es x num k c j os).Pairwise kjLt
  | [], j => by simp [inn]
  | o :: os, j => by
    unfold inn
    rw [List.pairwise_append]
    refine ⟨?_, inn_up os (j + 1), ?_⟩
    · split <;> simp
    · intro a ha b hb
      rw [inn_mem] at hb
      obtain ⟨i, o', dl, h1, h2, rfl⟩ := hb
      cases q : look es x.r num k j with
      | none => rw [q] at ha; cases ha
      | some dl' =>
        rw [q] at ha
        rw [List.mem_singleton.mp ha]
        right
        simp
        omega
theorem outn_mem {es : List Ent} {x : Arr} {num : Nat} {y : Arr} : ∀ (cs : List Call) (k : Nat), y ∈ outn es x num k cs ↔ ∃ (i : Nat) (c : Call), cs[i]? = some c ∧ c.c = x.s ∧ y ∈ inn es x num (k + i) c 0 c.offs
  | [], k => by simp [outn]
  | c :: cs, k => by
    unfold outn
    rw [List.mem_append, outn_mem cs (k + 1)]
    constructor
    · rintro (h | ⟨i, c', h1, h2, h3⟩)
      · by_cases e : c.c = x.s
        · rw [if_pos e] at h
          exact ⟨0, c, rfl, e, h⟩
        · rw [if_neg e] at h; cases h
      · refine ⟨i + 1, c', by simpa using h1, h2, ?_⟩
        have : k + (i + 1) = k + 1 + i := by omega
        rw [this]; exact h3
    · rintro ⟨i, c', h1, h2, h3⟩
      cases i with
      | zero =>
        simp at h1
        subst h1
        left
        rw [if_pos h2]
        exact h3
      | succ i =>
        right
        refine ⟨i, c', by simpa using h1, h2, ?_⟩
        have : k + 1 + i = k + (i + 1) := by omega
        rw [this]; exact h3
theorem outn_up {es : List Ent} {x : Arr} {num : Nat} : ∀ (cs : List Call) (k : Nat), (outn es x num k cs).Pairwise kjLt
  | [], k => by simp [outn]
  | c :: cs, k => by
    unfold outn
    rw [List.pairwise_append]
    refine ⟨?_, outn_up cs (k + 1), ?_⟩
    · split
      · exact inn_up _ _
      · simp
    · intro a ha b hb
      split at ha
      · rw [inn_mem] at ha
        rw [outn_mem] at hb
        obtain ⟨i, o, dl, _, _, rfl⟩ := ha
        obtain ⟨i', c', _, _, hb⟩ := hb
        rw [inn_mem] at hb
        obtain ⟨i2, o2, dl2, _, _, rfl⟩ := hb
        left
        simp
        omega
      · cases ha
theorem outn_news {n m : Int} {cs : List Call} {es : List Ent} {st : Sim} {x : Arr} (sch : SchOk n m cs es) : outn es x (st.cnt x.s x.r) 0 cs = st.news cs es x := by
  refine eq_sorted kj_as _ _ (outn_up cs 0) ?_ fun y => ?_
  · unfold Sim.news
    rw [List.pairwise_map]
    refine (sch.up.filter (hit cs x (st.cnt x.s x.r))).imp_of_mem fun {a b} ha hb h => ?_
    have h1 := (List.mem_filter.mp ha).2
    have h2 := (List.mem_filter.mp hb).2
    unfold hit at h1 h2
    simp only [Bool.and_eq_true, decide_eq_true_iff] at h1 h2
    have er : a.r = b.r := h1.1.trans h2.1.symm
    have ea : a.a = b.a := h1.2.1.trans h2.2.1.symm
    simp [Ent.key, ltvL, eqv_int, er, ea, ltv] at h
    unfold kjLt arr1
    simp
    split at h
    · rename_i e
      right
      refine ⟨by omega, ?_⟩
      exact h.2
    · omega
  · rw [outn_mem]
    constructor
    · rintro ⟨i, c, h1, h2, h3⟩
      rw [inn_mem] at h3
      obtain ⟨i2, o, dl, h4, h5, rfl⟩ := h3
      rw [look_iff sch.nd] at h5
      obtain ⟨e, he, e1, e2, e3, e4, e5⟩ := h5
      have ek : e.k = i := by omega
      have ej : e.j = i2 := by omega
      unfold Sim.news
      refine List.mem_map.mpr ⟨e, List.mem_filter.mpr ⟨he, ?_⟩, ?_⟩
      · unfold hit caller
        simp [e1, e2, ek, h1, h2]
      · unfold arr1
        simp [ek, ej, h1, h4, e5, e2]
    · intro h
      obtain ⟨e, he, h1, h2, h3, rfl⟩ := news_mem h
      obtain ⟨_, _, _, _, c, hc, hj, _, _⟩ := sch.ok e he
      unfold caller at h3
      rw [hc] at h3
      simp at h3
      refine ⟨e.k, c, hc, h3, ?_⟩
      rw [inn_mem]
      refine ⟨e.j, c.offs[e.j], e.dl, List.getElem?_eq_getElem hj, (look_iff sch.nd).mpr ⟨e, he, h1, h2, by omega, by omega, rfl⟩, ?_⟩
      simp [arr1, hc, hj, h2]
theorem dcL_ind {p : Nat} {tk : Bool} {ok : Hd → Prop} {g : TG} {t : TT} {k v : TE} {s : St} {Q : QP} (I : List D → Hd → Prop)
    (hs : ∀ d r h (K : Hd → Prop), (∀ h', I r h' → K h') → I (d :: r) h → g d s h (fun _ _ => False) fun s2 h2 => t s2 h2 (fun _ _ => False) fun b h3 =>
      if b = true then k s2 h3 (fun _ _ => False) fun y h4 => v s2 h4 (fun _ _ => False) fun z h5 =>
        ∃ l, h5 p = some (.dct tk l) ∧ keyOk tk y = true ∧ l.length < lim ∧ ok (up h5 p (.dct tk (putD y z l))) ∧ K (up h5 p (.dct tk (putD y z l))) else ok h3 ∧ K h3)
    (hd : ∀ h, I [] h → Q (.ref p) h) : ∀ (l : List D) (h : Hd), I l h → dcL p tk ok g t k v s Q l h
  | [], h, i => hd h i
  | d :: r, h, i => hs d r h (fun h' => dcL p tk ok g t k v s Q r h') (fun h' i' => dcL_ind I hs hd r h' i') i
theorem eDc_eq {tk : Bool} {it : TI} {g : TG} {t : TT} {k v : TE} {vs : List Nat} {s : St} {h : Hd} {E : XP} {Q : QP} : eDc tk it g t k v vs s h E Q = it s h E (fun l ok h1 => ∀ p, h1 p = none → ok (up h1 p (.dct tk [])) ∧ dcL p tk ok g t k v (wipe s vs) Q l (up h1 p (.dct tk []))) := rfl
def entKV (e : Ent) : D × D := (.tup e.key, .int e.dl)
theorem putD_new {dn : List Ent} {e : Ent} (hn : ((dn ++ [e]).map fun e => (e.r, e.a, e.k, e.j)).Nodup) : putD (.tup e.key) (.int e.dl) (dn.map entKV) = (dn ++ [e]).map entKV := by
  have : ((dn.map entKV).any fun p => eqv p.1 (.tup e.key)) = false := by
    rw [List.any_eq_false]
    intro p hp
    obtain ⟨f, hf, rfl⟩ := List.mem_map.mp hp
    have := eqv_tups [f.r, f.a, (f.k : Int), (f.j : Int)] [e.r, e.a, (e.k : Int), (e.j : Int)]
    simp only [List.map_cons, List.map_nil] at this
    unfold entKV Ent.key
    simp only
    rw [this]
    simp
    intro h1 h2 h3 h4
    rw [List.map_append, List.nodup_append] at hn
    refine hn.2.2 _ (List.mem_map.mpr ⟨f, hf, rfl⟩) _ (List.mem_map.mpr ⟨e, List.mem_cons_self, rfl⟩) ?_
    rw [h1, h2, show f.k = e.k by omega, show f.j = e.j by omega]
  unfold putD
  rw [this]
  simp [entKV]
def arrOf : D → Option D
  | .tup [.int i, .int t] => some ((⟨t, 0, i, 0, -1, 0⟩ : Arr).d)
  | _ => none
theorem enum_arr0 : ∀ (ts : List Int) (i : Nat), (enumD (i : Nat) (ts.map D.int)).filterMap arrOf = (arr0 i ts).map Arr.d
  | [], _ => rfl
  | t :: ts, i => by
    have := enum_arr0 ts (i + 1)
    have ei : ((i : Nat) : Int) + 1 = ((i + 1 : Nat) : Int) := by omega
    simp only [List.map_cons, enumD, arr0, List.filterMap_cons, ei, this, arrOf]
/-- the acts are the events that are acts -/
def Sim.good (st : Sim) : Prop := ∀ s : Int, (st.acts s).length = st.ev.countP fun e => decide (e.s = s) && e.act
theorem good_step {cs : List Call} {ws : Int → Int} {es : List Ent} {st : Sim} {x : Arr} (g : st.good) : (st.step cs ws es x).good := by
  intro s
  unfold Sim.step
  split
  · simp only [List.countP_append]
    rw [g s]
    simp
  · simp only [List.countP_append]
    unfold setA
    by_cases e : s = x.s
    · subst e
      rw [if_pos rfl, List.length_append, g x.s]
      simp
    · rw [if_neg e, g s]
      have : ¬ x.s = s := fun z => e z.symm
      simp [this]
theorem acts_le {st : Sim} (g : st.good) (s : Int) : (st.acts s).length ≤ st.ev.length := by
  rw [g s]; exact List.countP_le_length
theorem ev_step (cs : List Call) (ws : Int → Int) (es : List Ent) (st : Sim) (x : Arr) : (st.step cs ws es x).ev.length = st.ev.length + 1 := by
  unfold Sim.step
  split <;> simp
theorem up_adj {es : List Ent} (h : es.Pairwise fun e f => ltvL e.key f.key = true) (i : Nat) (e f : Ent) (a : es[i]? = some e) (b : es[i + 1]? = some f) : ltvL e.key f.key = true := by
  obtain ⟨h1, rfl⟩ := List.getElem?_eq_some_iff.mp a
  obtain ⟨h2, rfl⟩ := List.getElem?_eq_some_iff.mp b
  exact List.pairwise_iff_getElem.mp h i (i + 1) h1 h2 (by omega)
/-- request times -/
structure TmOk (ts : List Int) : Prop where
  ne : ts ≠ []
  le : ts.length ≤ 9
  at_ : ∀ (i : Nat) (t : Int), ts[i]? = some t → t ≤ 99999 ∧ (i = 0 → 0 ≤ t) ∧ ∀ (j : Nat) (u : Int), j + 1 = i → ts[j]? = some u → u + 1 ≤ t
theorem TmOk.ge {ts : List Int} (T : TmOk ts) : ∀ (i : Nat) (t : Int), ts[i]? = some t → 0 ≤ t
  | 0, t, h => (T.at_ 0 t h).2.1 rfl
  | i + 1, t, h => by
    have hl : i < ts.length := by have := (List.getElem?_eq_some_iff.mp h).1; omega
    have := (T.at_ (i + 1) t h).2.2 i ts[i] rfl (List.getElem?_eq_getElem hl)
    have := T.ge i ts[i] (List.getElem?_eq_getElem hl)
    omega
theorem TmOk.ge0 {ts : List Int} (T : TmOk ts) : ∀ t ∈ ts, 0 ≤ t := fun t ht => by
  obtain ⟨i, hi, e⟩ := List.mem_iff_getElem.mp ht
  exact T.ge i t (by rw [← e]; exact List.getElem?_eq_getElem hi)
/-- what a schedule is played on -/
structure PlayOk (C M : Int) (n : Int) (cs : List Call) (ws ts : List Int) (es : List Ent) : Prop where
  sys : SysOk 8 C M n cs
  hC : C ≤ 20
  hM : M ≤ 99
  wl : (ws.length : Int) = n
  wr : ∀ w ∈ ws, 0 ≤ w ∧ w ≤ 9999
  tm : TmOk ts
  sch : SchOk n ts.length cs es
  el : es.length ≤ 100000
theorem rng_eq (lo : Int) (n : Nat) : rngD lo n = (List.range' 0 n).map fun (k : Nat) => D.int (lo + k) := by
  unfold rngD
  rw [List.range_eq_range']
/-- a for over a range -/
theorem forL_rng {ok : Hd → Prop} {g : TG} {b : TS} {P : En} {lo : Int} {n : Nat} (I : Nat → St → Hd → Prop)
    (hs : ∀ k s h (K : St → Hd → Prop), k < n → (∀ s3 h3, I (k + 1) s3 h3 → K s3 h3) → I k s h → g (.int (lo + (k : Nat))) s h (fun x h' => ∀ s', P.ex x s' h') fun s2 h2 => b { P with nx := fun s3 h3 => ok h3 ∧ K s3 h3, ct := fun s3 h3 => ok h3 ∧ K s3 h3, bk := P.nx } s2 h2)
    (hd : ∀ s h, I n s h → P.nx s h) {s : St} {h : Hd} (i : I 0 s h) : forL ok g b P (rngD lo n) s h := by
  rw [rng_eq]
  refine forL_ind (fun r s h => ∃ k, k ≤ n ∧ r = (List.range' k (n - k)).map (fun (k : Nat) => D.int (lo + k)) ∧ I k s h) ?_ ?_ _ _ _ ⟨0, by omega, by simp, i⟩
  · rintro d r s h K hK ⟨k, hk, hr, hi⟩
    by_cases e : k = n
    · subst e; simp at hr
    · have : n - k = (n - (k + 1)) + 1 := by omega
      rw [this, List.range'_succ, List.map_cons] at hr
      injection hr with h1 h2
      subst h1
      exact hs k s h K (by omega) (fun s3 h3 i3 => hK s3 h3 ⟨k + 1, by omega, h2, i3⟩) hi
  · rintro s h ⟨k, hk, hr, hi⟩
    have : n - k = 0 := by
      cases q : n - k with
      | zero => rfl
      | succ m => rw [q, List.range'_succ] at hr; simp at hr
    have e : k = n := by omega
    subst e
    exact hd s h hi
/-- a list comprehension over a range -/
theorem lcL_rng {ok : Hd → Prop} {g : TG} {t : TT} {e : TE} {s : St} {Q : List D → Hd → Prop} {lo : Int} {n : Nat} (I : Nat → List D → Hd → Prop)
    (hs : ∀ k acc h (K : List D → Hd → Prop), k < n → (∀ acc' h', I (k + 1) acc' h' → K acc' h') → I k acc h → g (.int (lo + (k : Nat))) s h (fun _ _ => False) fun s2 h2 => t s2 h2 (fun _ _ => False) fun b h3 =>
      if b = true then e s2 h3 (fun _ _ => False) fun y h4 => ok h4 ∧ K (acc ++ [y]) h4 else ok h3 ∧ K acc h3)
    (hd : ∀ acc h, I n acc h → Q acc h) {h : Hd} (i : I 0 [] h) : lcL ok g t e s Q (rngD lo n) [] h := by
  rw [rng_eq]
  refine lcL_ind (fun r acc h => ∃ k, k ≤ n ∧ r = (List.range' k (n - k)).map (fun (k : Nat) => D.int (lo + k)) ∧ I k acc h) ?_ ?_ _ _ _ ⟨0, by omega, by simp, i⟩
  · rintro d r acc h K hK ⟨k, hk, hr, hi⟩
    by_cases e : k = n
    · subst e; simp at hr
    · have : n - k = (n - (k + 1)) + 1 := by omega
      rw [this, List.range'_succ, List.map_cons] at hr
      injection hr with h1 h2
      subst h1
      exact hs k acc h K (by omega) (fun s3 h3 i3 => hK s3 h3 ⟨k + 1, by omega, h2, i3⟩) hi
  · rintro acc h ⟨k, hk, hr, hi⟩
    have : n - k = 0 := by
      cases q : n - k with
      | zero => rfl
      | succ m => rw [q, List.range'_succ] at hr; simp at hr
    have e : k = n := by omega
    subst e
    exact hd acc h hi
/-- the order of a schedule's entries -/
def lex (e : Ent) (r a : Int) (k j : Nat) : Prop := e.r < r ∨ (e.r = r ∧ (e.a < a ∨ (e.a = a ∧ (e.k < k ∨ (e.k = k ∧ e.j < j)))))
theorem lex_lt {e : Ent} {f : Ent} (h : lex e f.r f.a f.k f.j) : ltvL e.key f.key = true := by
  unfold lex at h
  simp only [Ent.key, ltvL, eqv_int, ltv]
  by_cases h1 : e.r = f.r
  · by_cases h2 : e.a = f.a
    · by_cases h3 : e.k = f.k
      · by_cases h4 : e.j = f.j
        · omega
        · simp [h1, h2, h3, h4]; omega
      · have h4 : ¬ (e.k : Int) = f.k := by omega
        simp [h1, h2, h4]; omega
    · simp [h1, h2]; omega
  · simp [h1]; omega
/-- what is built of a schedule -/
structure Pre (m : Int) (cs : List Call) (es : List Ent) (r a : Int) (k j : Nat) : Prop where
  ok : ∀ e ∈ es, e.Ok m cs
  up : es.Pairwise fun e f => lex e f.r f.a f.k f.j
  lt : ∀ e ∈ es, lex e r a k j
theorem Pre.mono {m : Int} {cs : List Call} {es : List Ent} {r a r' a' : Int} {k j k' j' : Nat} (p : Pre m cs es r a k j) (h : r < r' ∨ (r = r' ∧ (a < a' ∨ (a = a' ∧ (k < k' ∨ (k = k' ∧ j ≤ j')))))) : Pre m cs es r' a' k' j' :=
  ⟨p.ok, p.up, fun e he => by have := p.lt e he; unfold lex at this ⊢; omega⟩
theorem Pre.add {m : Int} {cs : List Call} {es : List Ent} {e : Ent} (p : Pre m cs es e.r e.a e.k e.j) (ok : e.Ok m cs) : Pre m cs (es ++ [e]) e.r e.a e.k (e.j + 1) := by
  refine ⟨fun f hf => ?_, ?_, fun f hf => ?_⟩
  · rcases List.mem_append.mp hf with z | z
    · exact p.ok f z
    · rw [List.mem_singleton.mp z]; exact ok
  · rw [List.pairwise_append]
    refine ⟨p.up, by simp, fun f hf g hg => ?_⟩
    rw [List.mem_singleton.mp hg]
    exact p.lt f hf
  · rcases List.mem_append.mp hf with z | z
    · have := p.lt f z; unfold lex at this ⊢; omega
    · rw [List.mem_singleton.mp z]; unfold lex; omega
theorem Pre.sch {n m : Int} {cs : List Call} {es : List Ent} {r a : Int} {k j : Nat} (p : Pre m cs es r a k j) (cok : ∀ c ∈ cs, c.Ok n 99) : SchOk n m cs es := by
  refine ⟨p.ok, p.up.imp fun h => lex_lt h, ?_, cok⟩
  rw [List.Nodup, List.pairwise_map]
  refine p.up.imp fun {e f} h z => ?_
  simp at z
  unfold lex at h
  omega
/-- a run's events -/
theorem run_len {n m : Int} {cs : List Call} {ws : Int → Int} {es : List Ent} {a b : Sim} (sch : SchOk n m cs es) (r : Run cs ws es a b) : SimInv n cs a → b.ev.length ≤ a.ev.length + a.mu cs es := by
  induction r with
  | done _ => intro _; omega
  | step hx _ ih =>
    intro I
    have := ih (inv_step sch I hx.mem)
    have := mu_step (cs := cs) (ws := ws) (es := es) I.nd hx.mem
    rw [ev_step] at *
    omega
theorem like_evs : ∀ l : List Ev, likeOkL 6 (l.map Ev.d) = true
  | [] => rfl
  | e :: l => by simp [likeOkL, Ev.d, likeOk, like_evs l]
theorem like_ints : ∀ l : List Int, likeOkL 6 (l.map D.int) = true
  | [] => rfl
  | e :: l => by simp [likeOkL, likeOk, like_ints l]
def evF (s : Int) : D → Option D
  | .tup [.int t, .int u, .int r, .bl a] => if u = s ∧ a = true then some (.tup [.int t, .int u, .int r, .bl a]) else none
  | _ => none
theorem evF_len (s : Int) : ∀ l : List Ev, ((l.map Ev.d).filterMap (evF s)).length = l.countP fun e => decide (e.s = s) && e.act
  | [] => rfl
  | e :: l => by
    have ih := evF_len s l
    simp only [List.map_cons, List.filterMap_cons, Ev.d, evF, List.countP_cons] at ih ⊢
    by_cases h : e.s = s ∧ e.act = true
    · rw [if_pos h]; simp [h]; simpa [h] using ih
    · rw [if_neg h]
      have : ¬ ((decide (e.s = s) && e.act) = true) := by simpa using h
      rw [if_neg this]
      simpa using ih
theorem ix_two {a b v : Int} {h : Hd} {Q : QP} (h0 : 0 ≤ v) (h1 : v < 2) : oIx (.lst [.int a, .int b]) (.int v) h Q ↔ Q (.int (if v = 0 then a else b)) h := by
  have : v = 0 ∨ v = 1 := by omega
  rcases this with rfl | rfl
  · simp [oIx, ixOk, ixP]
  · simp [oIx, ixOk, ixP]
end G
end S_PM
section S_PM3
set_option linter.all false
set_option maxRecDepth 100000
/-! PM3: what messages can reach; data that is == to itself. -/
namespace G
open Dm
mutual
theorem eqv_refl : ∀ (d : D) (n : Nat), plain n d = true → Dm.eqv d d = true
  | .non, _, _ => rfl
  | .bl a, _, _ => by simp [Dm.eqv]
  | .int a, _, _ => by simp [Dm.eqv]
  | .str a, _, _ => by simp [Dm.eqv]
  | .lst l, n, h => by
    simp only [plain, Bool.and_eq_true] at h
    simp only [Dm.eqv]
    exact eqvL_refl l (n - 1) h.2
  | .tup l, n, h => by
    simp only [plain, Bool.and_eq_true] at h
    simp only [Dm.eqv]
    exact eqvL_refl l (n - 1) h.2
  | .byt _, _, h => by simp [plain] at h
  | .scr _, _, h => by simp [plain] at h
  | .set _, _, h => by simp [plain] at h
  | .ref _, _, h => by simp [plain] at h
  | .ty _, _, h => by simp [plain] at h
  | .exc _ _ _ _ _, _, h => by simp [plain] at h
  | .lam _, _, h => by simp [plain] at h
  | .fn _, _, h => by simp [plain] at h
  | .stp _, _, h => by simp [plain] at h
theorem eqvL_refl : ∀ (l : List D) (n : Nat), plainL n l = true → eqvL l l = true
  | [], _, _ => rfl
  | d :: l, n, h => by
    simp only [plainL, Bool.and_eq_true] at h
    simp only [eqvL, Bool.and_eq_true]
    exact ⟨eqv_refl d n h.1, eqvL_refl l n h.2⟩
end
theorem plainL_of {n : Nat} : ∀ {l : List D}, (∀ d ∈ l, plain n d = true) → plainL n l = true
  | [], _ => by simp [plainL]
  | d :: l, h => by
    simp only [plainL, Bool.and_eq_true]
    exact ⟨h d List.mem_cons_self, plainL_of fun x hx => h x (List.mem_cons_of_mem _ hx)⟩
/-- x == x, x != x -/
theorem eq_self {x : List D} {h : Hd} {Q : QP} (p : ∀ d ∈ x, plain 49 d = true) (q : Q (.bl true) h) : oEq (.lst x) (.lst x) h Q := by
  have e : plain 50 (.lst x) = true := by simp [plain, plainL_of p]
  refine ⟨e, e, ?_⟩
  have := eqv_refl (.lst x) 50 e
  simp only [vw, this]
  exact q
theorem ne_self {x : List D} {h : Hd} {Q : QP} (p : ∀ d ∈ x, plain 49 d = true) (q : Q (.bl false) h) : oNe (.lst x) (.lst x) h Q := by
  have e : plain 50 (.lst x) = true := by simp [plain, plainL_of p]
  refine ⟨e, e, ?_⟩
  have := eqv_refl (.lst x) 50 e
  simp only [vw, this]
  exact q
/-- what a message can reach -/
inductive Reach (cs : List Call) : Int → Prop where
  | zero : Reach cs 0
  | step {c : Call} : c ∈ cs → Reach cs c.c → Reach cs c.t
theorem Reach.rg {n S C M : Int} {cs : List Call} (sys : SysOk S C M n cs) {s : Int} (r : Reach cs s) : 0 ≤ s ∧ s < n := by
  have := sys.n1
  induction r with
  | zero => omega
  | step hc _ ih =>
    have ok := sys.cs _ hc
    have := ok.ct
    have := ok.tn
    omega
noncomputable instance (cs : List Call) (s : Int) : Decidable (Reach cs s) := Classical.propDecidable _
/-- the reached services, ascending -/
noncomputable def rch (n : Int) (cs : List Call) : List Int := ((List.range n.toNat).map fun (i : Nat) => (i : Int)).filter fun s => decide (Reach cs s)
theorem rch_mem {n S C M : Int} {cs : List Call} (sys : SysOk S C M n cs) (s : Int) : s ∈ rch n cs ↔ Reach cs s := by
  unfold rch
  rw [List.mem_filter]
  constructor
  · intro h
    exact of_decide_eq_true h.2
  · intro h
    refine ⟨?_, decide_eq_true h⟩
    have := h.rg sys
    rw [List.mem_map]
    exact ⟨s.toNat, by rw [List.mem_range]; omega, by omega⟩
theorem rch_up (n : Int) (cs : List Call) : (rch n cs).Pairwise (· < ·) := by
  unfold rch
  refine List.Pairwise.filter _ ?_
  rw [List.pairwise_map]
  refine List.pairwise_lt_range.imp ?_
  intro a b h
  omega
theorem eq_rch {n S C M : Int} {cs : List Call} (sys : SysOk S C M n cs) {ms : List Int} (h : ms.Pairwise (· < ·)) (m : ∀ s, s ∈ ms ↔ Reach cs s) : ms = rch n cs :=
  eq_sorted (R := fun a b : Int => a < b) (fun a b x y => by omega) _ _ h (rch_up n cs) fun s => (m s).trans (rch_mem sys s).symm
theorem rch_len (n : Int) (cs : List Call) : (rch n cs).length ≤ n.toNat := by
  unfold rch
  refine Nat.le_trans (List.length_filter_le _ _) ?_
  simp
/-- sorted, without repeats -/
theorem up_of {ms : List Int} (h : ms.Pairwise (· ≤ ·)) (nd : ms.Nodup) : ms.Pairwise (· < ·) := by
  refine (h.and nd).imp ?_
  intro a b ⟨x, y⟩
  omega
/-- a dict {i: True} -/
def trueD (F : List Int) : List (D × D) := F.map fun i => (.int i, .bl true)
theorem lkD_true (c : Int) : ∀ F : List Int, (lkD (.int c) (trueD F)).isSome = decide (c ∈ F)
  | [] => rfl
  | i :: F => by
    have ih := lkD_true c F
    simp only [trueD, List.map_cons, lkD, eqv_int] at ih ⊢
    by_cases h : i = c
    · subst h; simp
    · have h' : ¬ c = i := fun e => h e.symm
      simp only [h, decide_false, Bool.false_eq_true, if_false, ih, List.mem_cons, h', false_or]
theorem putD_true (c : Int) (F : List Int) : putD (.int c) (.bl true) (trueD F) = trueD (if c ∈ F then F else F ++ [c]) := by
  unfold putD
  rw [any_key, lkD_true]
  by_cases h : c ∈ F
  · simp only [h, decide_true, if_true]
    unfold trueD
    rw [List.map_map]
    apply List.map_congr_left
    intro i _
    simp only [Function.comp, eqv_int]
    by_cases e : i = c
    · subst e; simp
    · simp [e]
  · simp [h, trueD]
/-- one pass over calls, sorted by their callers, finds all -/
structure Pass (cs dn : List Call) (F : List Int) : Prop where
  z : (0 : Int) ∈ F
  nd : F.Nodup
  sub : ∀ s ∈ F, Reach cs s
  cl : ∀ c ∈ dn, c.c ∈ F → c.t ∈ F
  len : F.length ≤ dn.length + 1
theorem Pass.step {cs dn : List Call} {F : List Int} {d : Call} (p : Pass cs dn F) (hd : d ∈ cs) (hlt : d.c < d.t) (srt : ∀ c ∈ dn, c.c ≤ d.c) : Pass cs (dn ++ [d]) (if d.c ∈ F then (if d.t ∈ F then F else F ++ [d.t]) else F) := by
  by_cases h1 : d.c ∈ F
  · rw [if_pos h1]
    by_cases h2 : d.t ∈ F
    · rw [if_pos h2]
      refine ⟨p.z, p.nd, p.sub, fun c hc hf => ?_, by have := p.len; simp; omega⟩
      rcases List.mem_append.mp hc with z | z
      · exact p.cl c z hf
      · rw [List.mem_singleton.mp z]; exact h2
    · rw [if_neg h2]
      refine ⟨List.mem_append.mpr (.inl p.z), ?_, fun s hs => ?_, fun c hc hf => ?_, by have := p.len; simp; omega⟩
      · rw [List.nodup_append]
        refine ⟨p.nd, by simp, fun a ha b hb e => ?_⟩
        rw [List.mem_singleton.mp hb] at e
        subst e
        exact h2 ha
      · rcases List.mem_append.mp hs with z | z
        · exact p.sub s z
        · rw [List.mem_singleton.mp z]; exact .step hd (p.sub _ h1)
      · rcases List.mem_append.mp hc with z | z
        · rcases List.mem_append.mp hf with y | y
          · exact List.mem_append.mpr (.inl (p.cl c z y))
          · have := srt c z
            have := List.mem_singleton.mp y
            omega
        · rw [List.mem_singleton.mp z]; exact List.mem_append.mpr (.inr List.mem_cons_self)
  · rw [if_neg h1]
    refine ⟨p.z, p.nd, p.sub, fun c hc hf => ?_, by have := p.len; simp; omega⟩
    rcases List.mem_append.mp hc with z | z
    · exact p.cl c z hf
    · rw [List.mem_singleton.mp z] at hf; exact absurd hf h1
theorem Pass.all {cs dn : List Call} {F : List Int} (p : Pass cs dn F) (h : ∀ c ∈ cs, c ∈ dn) {s : Int} (r : Reach cs s) : s ∈ F := by
  induction r with
  | zero => exact p.z
  | step hc _ ih => exact p.cl _ (h _ hc) ih
def mkCall : Mk := .tup [.int, .int, .tups .int, .int, .int]
theorem mkOkA_ints : ∀ l : List Int, mkOkA .int (l.map D.int) = true
  | [] => rfl
  | i :: l => by simp [mkOkA, mkOk, mkOkA_ints l]
theorem Call.mkOk (c : Call) : Dm.mkOk mkCall c.d = true := by simp [mkCall, Call.d, Dm.mkOk, mkOkL, mkOkA_ints]
theorem call_lt {c d : Call} (h : ltv d.d c.d = false) : c.c ≤ d.c := by
  simp only [Call.d, ltv, ltvL, eqv_int] at h
  by_cases e : d.c = c.c
  · omega
  · simp [e] at h; omega
theorem Call.d_inj {c d : Call} (h : c.d = d.d) : c = d := by
  cases c; cases d
  simp [Call.d] at h
  obtain ⟨h1, h2, h3, h4, h5⟩ := h
  have := map_int_inj h3
  simp [*]
theorem map_of_perm {α β : Type} {f : α → β} (inj : ∀ a b, f a = f b → a = b) {l : List α} {m : List β} (h : m.Perm (l.map f)) : ∃ l' : List α, m = l'.map f ∧ l'.Perm l := by
  induction m generalizing l with
  | nil =>
    have := h.length_eq
    cases l with
    | nil => exact ⟨[], rfl, .nil⟩
    | cons _ _ => simp at this
  | cons b m ih =>
    have hb : b ∈ l.map f := h.mem_iff.mp List.mem_cons_self
    obtain ⟨a, ha, rfl⟩ := List.mem_map.mp hb
    obtain ⟨l1, l2, rfl⟩ := List.append_of_mem ha
    have h2 : m.Perm ((l1 ++ l2).map f) := by
      have e : (l1 ++ a :: l2).map f = l1.map f ++ f a :: l2.map f := by simp
      rw [e] at h
      have := (h.trans List.perm_middle).cons_inv
      simpa using this
    obtain ⟨l', rfl, hp⟩ := ih h2
    exact ⟨a :: l', rfl, (hp.cons a).trans List.perm_middle.symm⟩
end G
end S_PM3
section S_PM2
set_option linter.all false
set_option maxRecDepth 100000
/-! PM2: the plain player's arrivals. -/
namespace G
open Dm
/-- a request, or a message -/
def Arr.wf (y : Arr) : Prop := (y.k = -1 ∧ y.s = 0 ∧ y.a = 0 ∧ y.j = 0) ∨ (0 ≤ y.k ∧ 0 < y.s)
def Arr.kd (y : Arr) : Int := if y.k = -1 then 0 else 1
def Arr.k0 (y : Arr) : Int := if y.k = -1 then 0 else y.k
def Arr.p (y : Arr) : D := .tup [.int y.t, .int y.s, .int y.kd, .tup [.int y.r, .int y.a, .int y.k0, .int y.j]]
theorem ltvL_cons (a b : Int) (x y : List D) : ltvL (.int a :: x) (.int b :: y) = if a = b then ltvL x y else decide (a < b) := by
  simp only [ltvL, eqv_int, ltv]
  by_cases h : a = b <;> simp [h]
theorem p_lt {y x : Arr} (hy : y.wf) (hx : x.wf) : ltv y.p x.p = ltv y.d x.d := by
  unfold Arr.p Arr.d Arr.is
  simp only [ltv, List.map_cons, List.map_nil]
  rw [ltvL_cons, ltvL_cons y.t x.t]
  split
  · rw [ltvL_cons, ltvL_cons y.s x.s]
    split
    · rename_i e1 e2
      rw [ltvL_cons]
      unfold Arr.wf at hy hx
      have ek : y.kd = x.kd := by unfold Arr.kd; split <;> split <;> omega
      rw [if_pos ek]
      have e3 : ltvL [D.tup [.int y.r, .int y.a, .int y.k0, .int y.j]] [D.tup [.int x.r, .int x.a, .int x.k0, .int x.j]] = ltvL [.int y.r, .int y.a, .int y.k0, .int y.j] [.int x.r, .int x.a, .int x.k0, .int x.j] := by
        simp only [ltvL, ltv, eqv, eqvL, eqv_int]
        by_cases h1 : y.r = x.r <;> by_cases h2 : y.a = x.a <;> by_cases h3 : y.k0 = x.k0 <;> by_cases h4 : y.j = x.j <;> simp [h1, h2, h3, h4]
      rw [e3, ltvL_cons, ltvL_cons y.r x.r]
      split
      · rw [ltvL_cons, ltvL_cons y.a x.a]
        split
        · have e4 : y.k0 = x.k0 ↔ y.k = x.k := by unfold Arr.k0; split <;> split <;> omega
          have e5 : ¬ y.k = x.k → (y.k0 < x.k0 ↔ y.k < x.k) := fun _ => by unfold Arr.k0; split <;> split <;> omega
          rw [ltvL_cons, ltvL_cons y.k x.k]
          by_cases h : y.k = x.k
          · rw [if_pos h, if_pos (e4.mpr h)]
          · rw [if_neg h, if_neg (fun z => h (e4.mp z))]
            simp only [decide_eq_decide]
            exact e5 h
        · rfl
      · rfl
    · rfl
  · rfl
theorem p_eqv (y x : Arr) : Dm.eqv y.p x.p = true ↔ y.t = x.t ∧ y.s = x.s ∧ y.kd = x.kd ∧ y.r = x.r ∧ y.a = x.a ∧ y.k0 = x.k0 ∧ y.j = x.j := by
  unfold Arr.p
  simp [Dm.eqv, eqvL, eqv_int]
theorem p_eqv' {y x : Arr} (hy : y.wf) (hx : x.wf) : Dm.eqv y.p x.p = decide (y = x) := by
  by_cases h : y = x
  · subst h
    rw [decide_eq_true rfl]
    exact (p_eqv y y).mpr ⟨rfl, rfl, rfl, rfl, rfl, rfl, rfl⟩
  · rw [decide_eq_false h]
    cases q : Dm.eqv y.p x.p with
    | false => rfl
    | true =>
      obtain ⟨h1, h2, h3, h4, h5, h6, h7⟩ := (p_eqv y x).mp q
      exfalso
      apply h
      unfold Arr.wf at hy hx
      have : y.k = x.k := by unfold Arr.kd at h3; unfold Arr.k0 at h6; split at h3 <;> split at h3 <;> simp_all
      cases y; cases x; simp at *; simp [*]
def mkP : Mk := .tup [.int, .int, .int, .tup [.int, .int, .int, .int]]
theorem Arr.mkP (x : Arr) : mkOk G.mkP x.p = true := by simp [G.mkP, Arr.p, mkOk, mkOkL]
theorem min_p {l : List Arr} {v : D} {h : Hd} {Q : QP} (hs : sqL h v = some (l.map Arr.p)) (wf : ∀ y ∈ l, y.wf) (ne : l ≠ []) (q : ∀ x, IsMin l x → Q x.p h) : bMin1 [v] h Q := by
  refine ⟨_, mkP, hs, by simpa using ne, by simp [mkP, mkDep, mkDepL], fun d hd => ?_, fun d hd hle => ?_⟩
  · obtain ⟨x, _, rfl⟩ := List.mem_map.mp hd
    exact x.mkP
  · obtain ⟨x, hx, rfl⟩ := List.mem_map.mp hd
    exact q x ⟨hx, fun y hy => by rw [← p_lt (wf y hy) (wf x hx)]; exact hle _ (List.mem_map.mpr ⟨y, hy, rfl⟩)⟩
theorem plain_p (x : Arr) : plain 50 x.p = true := by simp [Arr.p, plain, plainL]
theorem plain_p49 (x : Arr) : plain 49 x.p = true := by simp [Arr.p, plain, plainL]
theorem plainL_p : ∀ l : List Arr, plainL 50 (l.map Arr.p) = true
  | [] => by simp [plainL]
  | x :: l => by simp [plainL, plain_p, plainL_p l]
theorem plainL_p49 : ∀ l : List Arr, plainL 49 (l.map Arr.p) = true
  | [] => by simp [plainL]
  | x :: l => by simp [plainL, plain_p49, plainL_p49 l]
theorem rm_p {x : Arr} (hx : x.wf) : ∀ {l : List Arr}, (∀ y ∈ l, y.wf) → l.Nodup → rmFst x.p (l.map Arr.p) = (l.filter fun y => decide (y ≠ x)).map Arr.p
  | [], _, _ => rfl
  | y :: l, wf, h => by
    rw [List.nodup_cons] at h
    simp only [List.map_cons, rmFst, p_eqv' (wf y List.mem_cons_self) hx]
    by_cases e : y = x
    · subst e
      have : (l.filter fun z => decide (z ≠ y)) = l := List.filter_eq_self.mpr fun z hz => by
        have : z ≠ y := fun e => by subst e; exact h.1 hz
        simpa using this
      rw [decide_eq_true rfl, if_pos rfl, List.filter_cons_of_neg (by simp), this]
    · simp [e, rm_p hx (fun z hz => wf z (List.mem_cons_of_mem _ hz)) h.2]
/-- all arrivals are requests to 0 or messages to others -/
def Sim.Wf (st : Sim) : Prop := ∀ y ∈ st.pend, y.wf
theorem wf0 (ts : List Int) : (sim0 ts).Wf := by
  intro y hy
  have go : ∀ (ts : List Int) (i : Nat), y ∈ arr0 i ts → y.wf := by
    intro ts
    induction ts with
    | nil => intro i h; cases h
    | cons t ts ih =>
      intro i h
      rcases List.mem_cons.mp h with rfl | h
      · exact .inl ⟨rfl, rfl, rfl, rfl⟩
      · exact ih _ h
  exact go ts 0 hy
theorem wf_step {n m : Int} {cs : List Call} {ws : Int → Int} {es : List Ent} {st : Sim} {x : Arr} (sch : SchOk n m cs es) (W : st.Wf) : (st.step cs ws es x).Wf := by
  unfold Sim.step
  split
  · exact fun y hy => W y (rest_mem hy).1
  · intro y hy
    rcases List.mem_append.mp hy with z | z
    · exact W y (rest_mem z).1
    · obtain ⟨f, hf, h1, h2, h3, e⟩ := news_mem z
      obtain ⟨_, _, _, _, c, hc, hj, hl, hh⟩ := sch.ok f hf
      have ok := sch.cok c (List.mem_of_getElem? hc)
      right
      rw [e]
      have := ok.c0
      have := ok.ct
      simp [arr1, hc]
      omega
theorem ix_dct {h : Hd} {p : Nat} {t : Bool} {l : List (D × D)} {k v : D} {Q : QP} (hp : h p = some (.dct t l)) (hk : keyOk t k = true) (hv : lkD k l = some v) : oIx (.ref p) k h Q ↔ Q v h := by
  constructor
  · rintro ⟨o, ho, q⟩
    rw [hp] at ho
    cases ho
    obtain ⟨v', _, e, q⟩ := q
    rw [hv] at e
    cases e
    exact q
  · exact fun q => ⟨_, hp, v, hk, hv, q⟩
theorem add_int {a b : Int} {h : Hd} {Q : QP} : oAdd (.int a) (.int b) h Q ↔ Q (.int (a + b)) h := Iff.rfl
theorem sub_int {a b : Int} {h : Hd} {Q : QP} : oSub (.int a) (.int b) h Q ↔ Q (.int (a - b)) h := Iff.rfl
theorem neg_int {a : Int} {h : Hd} {Q : QP} : oNeg (.int a) h Q ↔ Q (.int (-a)) h := Iff.rfl
theorem ix_c3 {c : Call} {h : Hd} {Q : QP} : oIx c.d (.int 3) h Q ↔ Q (.int c.lo) h := by simp [Call.d, oIx, ixOk, ixP]
theorem ix_c4 {c : Call} {h : Hd} {Q : QP} : oIx c.d (.int 4) h Q ↔ Q (.int c.hi) h := by simp [Call.d, oIx, ixOk, ixP]
theorem add_tup {a b : List D} {h : Hd} {Q : QP} : oAdd (.tup a) (.tup b) h Q ↔ a.length + b.length ≤ lim ∧ Q (.tup (a ++ b)) h := Iff.rfl
theorem ixP_nn {n : Nat} {s : Int} (s0 : 0 ≤ s) : ixP n s = s.toNat := by unfold ixP; rw [if_neg (by omega)]
theorem ix_rl {h : Hd} {p : Nat} {l : List D} {s : Int} {v : D} {Q : QP} (hp : h p = some (.lst l)) (s0 : 0 ≤ s) (e : l[s.toNat]? = some v) : oIx (.ref p) (.int s) h Q ↔ Q v h := by
  have hl : s.toNat < l.length := (List.getElem?_eq_some_iff.mp e).1
  constructor
  · rintro ⟨o, ho, q⟩
    rw [hp] at ho
    cases ho
    obtain ⟨i, v', e1, _, e2, q⟩ := q
    cases e1
    rw [ixP_nn s0, e] at e2
    cases e2
    exact q
  · exact fun q => ⟨_, hp, s, v, rfl, ⟨by omega, by omega⟩, by rw [ixP_nn s0]; exact e, q⟩
theorem ix_tl {h : Hd} {l : List D} {s : Int} {v : D} {Q : QP} (s0 : 0 ≤ s) (e : l[s.toNat]? = some v) : oIx (.tup l) (.int s) h Q ↔ Q v h := by
  have hl : s.toNat < l.length := (List.getElem?_eq_some_iff.mp e).1
  constructor
  · rintro ⟨i, v', e1, _, e2, q⟩
    cases e1
    rw [ixP_nn s0, e] at e2
    cases e2
    exact q
  · exact fun q => ⟨s, v, rfl, ⟨by omega, by omega⟩, by rw [ixP_nn s0]; exact e, q⟩
theorem ix_ll {h : Hd} {l : List D} {s : Int} {v : D} {Q : QP} (s0 : 0 ≤ s) (e : l[s.toNat]? = some v) : oIx (.lst l) (.int s) h Q ↔ Q v h := by
  have hl : s.toNat < l.length := (List.getElem?_eq_some_iff.mp e).1
  constructor
  · rintro ⟨i, v', e1, _, e2, q⟩
    cases e1
    rw [ixP_nn s0, e] at e2
    cases e2
    exact q
  · exact fun q => ⟨s, v, rfl, ⟨by omega, by omega⟩, by rw [ixP_nn s0]; exact e, q⟩
theorem ix_last {h : Hd} {p : Nat} {l : List D} {v : D} {Q : QP} (hp : h p = some (.lst (l ++ [v]))) : oIx (.ref p) (.int (-1)) h Q ↔ Q v h := by
  have e : (l ++ [v])[ixP (l ++ [v]).length (-1)]? = some v := by
    have : ixP (l ++ [v]).length (-1) = l.length := by unfold ixP; simp; omega
    rw [this]
    simp
  constructor
  · rintro ⟨o, ho, q⟩
    rw [hp] at ho
    cases ho
    obtain ⟨i, v', e1, _, e2, q⟩ := q
    cases e1
    rw [e] at e2
    cases e2
    exact q
  · exact fun q => ⟨_, hp, -1, v, rfl, ⟨by simp; omega, by omega⟩, e, q⟩
/-- an event of the plain player: the request by which the service remembered -/
def evbD (e : Ev × Int) : D := .tup [.int e.1.t, .int e.1.s, .int e.1.r, .bl e.1.act, .int e.2]
def keptD (st : Sim) (i : Nat) : D := match (st.acts i).getLast? with
  | none => .non
  | some a => .tup [.int a.1, .int a.2]
end G
end S_PM2
section S_PT
set_option linter.all false
set_option maxRecDepth 100000
/-! PT: the table of greatest differences, in plain Lean. -/
namespace G
open Dm
def Call.last (c : Call) : Int := (c.offs.getLast?).getD 0
def Call.first (c : Call) : Int := (c.offs.head?).getD 0
def enumC : Nat → List Call → List (Nat × Call)
  | _, [] => []
  | k, c :: cs => (k, c) :: enumC (k + 1) cs
theorem enumC_mem : ∀ (cs : List Call) (k : Nat) (p : Nat × Call), p ∈ enumC k cs ↔ k ≤ p.1 ∧ cs[p.1 - k]? = some p.2
  | [], k, p => by simp [enumC]
  | c :: cs, k, p => by
    unfold enumC
    rw [List.mem_cons, enumC_mem cs (k + 1) p]
    constructor
    · rintro (rfl | ⟨h1, h2⟩)
      · simp
      · refine ⟨by omega, ?_⟩
        have : p.1 - k = (p.1 - (k + 1)) + 1 := by omega
        rw [this]
        simpa using h2
    · rintro ⟨h1, h2⟩
      by_cases e : p.1 = k
      · left
        rw [e] at h2
        simp at h2
        obtain ⟨a, b⟩ := p
        simp at e h2
        rw [e, h2]
      · right
        refine ⟨by omega, ?_⟩
        have : p.1 - k = (p.1 - (k + 1)) + 1 := by omega
        rw [this] at h2
        simpa using h2
/-- the calls of reached services to a service -/
noncomputable def into (cs : List Call) (s : Int) : List (Nat × Call) := (enumC 0 cs).filter fun p => decide (p.2.t = s) && decide (Reach cs p.2.c)
theorem into_mem {cs : List Call} {s : Int} {p : Nat × Call} : p ∈ into cs s ↔ cs[p.1]? = some p.2 ∧ p.2.t = s ∧ Reach cs p.2.c := by
  unfold into
  rw [List.mem_filter, enumC_mem]
  simp
theorem into_ne {cs : List Call} {s : Int} (r : Reach cs s) (h : s ≠ 0) : into cs s ≠ [] := by
  cases r with
  | zero => exact absurd rfl h
  | @step c hc r =>
    obtain ⟨i, hi, e⟩ := List.mem_iff_getElem.mp hc
    intro z
    have : (i, c) ∈ into cs c.t := into_mem.mpr ⟨by rw [← e]; exact List.getElem?_eq_getElem hi, rfl, r⟩
    rw [z] at this
    cases this
/-- the first of the greatest -/
def bstF (val : Nat × Call → Int) (acc : Option (Nat × Call)) (p : Nat × Call) : Option (Nat × Call) := match acc with
  | none => some p
  | some q => if val q < val p then some p else some q
def bst (val : Nat × Call → Int) (l : List (Nat × Call)) : Option (Nat × Call) := l.foldl (bstF val) none
theorem fold_congr {val val' : Nat × Call → Int} : ∀ (l : List (Nat × Call)) (acc : Option (Nat × Call)), (∀ p ∈ l, val p = val' p) → (∀ p, acc = some p → val p = val' p) → l.foldl (bstF val) acc = l.foldl (bstF val') acc
  | [], _, _, _ => rfl
  | p :: l, acc, h, ha => by
    simp only [List.foldl_cons]
    have hp := h p List.mem_cons_self
    have e : bstF val acc p = bstF val' acc p := by
      unfold bstF
      cases acc with
      | none => rfl
      | some q => simp only [ha q rfl, hp]
    rw [e]
    refine fold_congr l _ (fun q hq => h q (List.mem_cons_of_mem _ hq)) fun q hq => ?_
    unfold bstF at hq
    cases acc with
    | none => simp at hq; subst hq; exact hp
    | some r =>
      simp only at hq
      split at hq
      · cases hq; exact hp
      · cases hq; exact ha _ rfl
theorem bst_congr {val val' : Nat × Call → Int} {l : List (Nat × Call)} (h : ∀ p ∈ l, val p = val' p) : bst val l = bst val' l := fold_congr l none h fun p e => by cases e
theorem fold_max {val : Nat × Call → Int} : ∀ (l : List (Nat × Call)) (q : Nat × Call), ∃ p, l.foldl (bstF val) (some q) = some p ∧ (p = q ∨ p ∈ l) ∧ val q ≤ val p ∧ ∀ x ∈ l, val x ≤ val p
  | [], q => ⟨q, rfl, .inl rfl, Int.le_refl _, fun x hx => by cases hx⟩
  | x :: l, q => by
    simp only [List.foldl_cons]
    by_cases h : val q < val x
    · have e : bstF val (some q) x = some x := by simp [bstF, h]
      rw [e]
      obtain ⟨p, h1, h2, h3, h4⟩ := fold_max l x
      refine ⟨p, h1, .inr ?_, by omega, fun y hy => ?_⟩
      · rcases h2 with rfl | h2
        · exact List.mem_cons_self
        · exact List.mem_cons_of_mem _ h2
      · rcases List.mem_cons.mp hy with rfl | hy
        · exact h3
        · exact h4 y hy
    · have e : bstF val (some q) x = some q := by simp [bstF, h]
      rw [e]
      obtain ⟨p, h1, h2, h3, h4⟩ := fold_max l q
      refine ⟨p, h1, ?_, h3, fun y hy => ?_⟩
      · rcases h2 with rfl | h2
        · exact .inl rfl
        · exact .inr (List.mem_cons_of_mem _ h2)
      · rcases List.mem_cons.mp hy with rfl | hy
        · omega
        · exact h4 y hy
theorem bst_max {val : Nat × Call → Int} {l : List (Nat × Call)} (ne : l ≠ []) : ∃ p, bst val l = some p ∧ p ∈ l ∧ ∀ x ∈ l, val x ≤ val p := by
  cases l with
  | nil => exact absurd rfl ne
  | cons q l =>
    obtain ⟨p, h1, h2, h3, h4⟩ := fold_max (val := val) l q
    refine ⟨p, h1, ?_, fun x hx => ?_⟩
    · rcases h2 with rfl | h2
      · exact List.mem_cons_self
      · exact List.mem_cons_of_mem _ h2
    · rcases List.mem_cons.mp hx with rfl | hx
      · exact h3
      · exact h4 x hx
/-- what a message adds -/
def vL (g : Int → Int → Int) (b : Int) (p : Nat × Call) : Int := g p.2.c b + p.2.last + p.2.hi
def vE (g : Int → Int → Int) (a : Int) (p : Nat × Call) : Int := g a p.2.c - p.2.first - p.2.lo
/-- greatest differences, with fuel -/
noncomputable def gr (cs : List Call) : Nat → Int → Int → Int
  | 0, _, _ => 0
  | f + 1, a, b => if a = b then 0 else if b < a then ((bst (vL (gr cs f) b) (into cs a)).map (vL (gr cs f) b)).getD 0 else ((bst (vE (gr cs f) a) (into cs b)).map (vE (gr cs f) a)).getD 0
theorem map_getD_congr {v w : Nat × Call → Int} {l : List (Nat × Call)} (h : ∀ p ∈ l, v p = w p) : ((bst v l).map v).getD 0 = ((bst w l).map w).getD 0 := by
  rw [bst_congr h]
  cases q : bst w l with
  | none => rfl
  | some p =>
    have ne : l ≠ [] := fun e => by rw [e] at q; cases q
    obtain ⟨p', h1, h2, _⟩ := bst_max (val := w) ne
    rw [q] at h1
    cases h1
    simp [h p h2]
theorem gr_fuel {n S C M : Int} {cs : List Call} (sys : SysOk S C M n cs) : ∀ (f : Nat) (a b : Int), 0 ≤ a → 0 ≤ b → a + b < f → gr cs (f + 1) a b = gr cs f a b
  | 0, a, b, ha, hb, h => by omega
  | f + 1, a, b, ha, hb, h => by
    rw [gr, gr.eq_def cs (f + 1)]
    simp only
    split
    · rfl
    · split
      · refine map_getD_congr fun p hp => ?_
        obtain ⟨h1, h2, h3⟩ := into_mem.mp hp
        have ok := sys.cs p.2 (List.mem_of_getElem? h1)
        have := ok.c0
        have := ok.ct
        unfold vL
        rw [gr_fuel sys f p.2.c b (by omega) hb (by omega)]
      · refine map_getD_congr fun p hp => ?_
        obtain ⟨h1, h2, h3⟩ := into_mem.mp hp
        have ok := sys.cs p.2 (List.mem_of_getElem? h1)
        have := ok.c0
        have := ok.ct
        unfold vE
        rw [gr_fuel sys f a p.2.c ha (by omega) (by omega)]
/-- the greatest difference of two act times -/
noncomputable def gd (cs : List Call) (a b : Int) : Int := gr cs 1000 a b
theorem gd_eq {n S C M : Int} {cs : List Call} (sys : SysOk S C M n cs) (hS : S ≤ 100) {a b : Int} (ha : 0 ≤ a) (hb : 0 ≤ b) (ha9 : a < n) (hb9 : b < n) :
    gd cs a b = if a = b then 0 else if b < a then ((bst (vL (gd cs) b) (into cs a)).map (vL (gd cs) b)).getD 0 else ((bst (vE (gd cs) a) (into cs b)).map (vE (gd cs) a)).getD 0 := by
  have := sys.nS
  have e := gr_fuel sys 1000 a b ha hb (by omega)
  unfold gd
  rw [← e, gr]
theorem gd_self (cs : List Call) (a : Int) : gd cs a a = 0 := by
  unfold gd
  rw [gr]
  simp
structure Late (cs : List Call) (a b : Int) (p : Nat × Call) : Prop where
  at_ : bst (vL (gd cs) b) (into cs a) = some p
  mem : p ∈ into cs a
  eq : gd cs a b = gd cs p.2.c b + p.2.last + p.2.hi
  le : ∀ x ∈ into cs a, gd cs x.2.c b + x.2.last + x.2.hi ≤ gd cs a b
structure Early (cs : List Call) (a b : Int) (p : Nat × Call) : Prop where
  at_ : bst (vE (gd cs) a) (into cs b) = some p
  mem : p ∈ into cs b
  eq : gd cs a b = gd cs a p.2.c - p.2.first - p.2.lo
  le : ∀ x ∈ into cs b, gd cs a x.2.c - x.2.first - x.2.lo ≤ gd cs a b
theorem late {n S C M : Int} {cs : List Call} (sys : SysOk S C M n cs) (hS : S ≤ 100) {a b : Int} (ra : Reach cs a) (hb : 0 ≤ b) (h : b < a) : ∃ p, Late cs a b p := by
  have rg := ra.rg sys
  obtain ⟨p, h1, h2, h3⟩ := bst_max (val := vL (gd cs) b) (into_ne ra (by omega))
  have e := gd_eq sys hS (a := a) (b := b) rg.1 hb rg.2 (by omega)
  rw [if_neg (by omega), if_pos h, h1] at e
  simp only [Option.map_some, Option.getD_some] at e
  exact ⟨p, h1, h2, e, fun x hx => by rw [e]; exact h3 x hx⟩
theorem early {n S C M : Int} {cs : List Call} (sys : SysOk S C M n cs) (hS : S ≤ 100) {a b : Int} (rb : Reach cs b) (ha : 0 ≤ a) (h : a < b) : ∃ p, Early cs a b p := by
  have rg := rb.rg sys
  obtain ⟨p, h1, h2, h3⟩ := bst_max (val := vE (gd cs) a) (into_ne rb (by omega))
  have e := gd_eq sys hS (a := a) (b := b) ha rg.1 (by omega) rg.2
  rw [if_neg (by omega), if_neg (by omega), h1] at e
  simp only [Option.map_some, Option.getD_some] at e
  exact ⟨p, h1, h2, e, fun x hx => by rw [e]; exact h3 x hx⟩
end G
end S_PT
section S_PT2
set_option linter.all false
set_option maxRecDepth 100000
namespace G
open Dm
/-- a dict with pairs of numbers as keys -/
def DctAt (h : Hd) (p N : Nat) (F : Int → Int → Option D) : Prop := ∃ l, h p = some (.dct true l) ∧ (∀ q ∈ l, ∃ ks : List Int, q.1 = .tup (ks.map D.int)) ∧ (∀ a b : Int, lkD (.tup ([a, b].map D.int)) l = F a b) ∧ l.length ≤ N
def up2 (F : Int → Int → Option D) (a b : Int) (v : D) : Int → Int → Option D := fun x y => if x = a ∧ y = b then some v else F x y
theorem DctAt.get {h : Hd} {p N : Nat} {F : Int → Int → Option D} {a b : Int} {v : D} {Q : QP} (d : DctAt h p N F) (e : F a b = some v) : oIx (.ref p) (.tup [.int a, .int b]) h Q ↔ Q v h := by
  obtain ⟨l, h1, h2, h3, h4⟩ := d
  exact ix_dct h1 rfl ((h3 a b).trans e)
theorem DctAt.put {h : Hd} {p N : Nat} {F : Int → Int → Option D} {a b : Int} {v : D} (d : DctAt h p N F) : ∃ l, h p = some (.dct true l) ∧ l.length ≤ N ∧ DctAt (up h p (.dct true (putD (.tup [.int a, .int b]) v l))) p (N + 1) (up2 F a b v) := by
  obtain ⟨l, h1, h2, h3, h4⟩ := d
  have y2 : ∃ l : List Int, (D.tup [D.int a, D.int b]) = .tup (l.map D.int) := ⟨[a, b], rfl⟩
  refine ⟨l, h1, h4, _, up_same _ _ _, putD_keys (K := fun d => ∃ l : List Int, d = .tup (l.map D.int)) y2 h2, fun x y => ?_, Nat.le_trans (putD_le _ _ _) (by omega)⟩
  rw [lkD_put keyEq_tup y2 ⟨[x, y], rfl⟩ h2, h3]
  have ee : Dm.eqv (D.tup [D.int a, D.int b]) (D.tup ([x, y].map D.int)) = decide ([a, b] = [x, y]) := eqv_tups [a, b] [x, y]
  rw [ee]
  unfold up2
  by_cases e : x = a ∧ y = b
  · obtain ⟨rfl, rfl⟩ := e
    simp
  · have e' : ¬ ([a, b] = [x, y]) := fun z => by simp at z; exact e ⟨z.1.symm, z.2.symm⟩
    simp [e, e']
theorem DctAt.off {h h' : Hd} {p N : Nat} {F : Int → Int → Option D} (d : DctAt h p N F) (e : h' p = h p) : DctAt h' p N F := by
  obtain ⟨l, h1, h2⟩ := d
  exact ⟨l, e.trans h1, h2⟩
theorem DctAt.mono {h : Hd} {p N M : Nat} {F : Int → Int → Option D} (d : DctAt h p N F) (e : N ≤ M) : DctAt h p M F := by
  obtain ⟨l, h1, h2, h3, h4⟩ := d
  exact ⟨l, h1, h2, h3, Nat.le_trans h4 e⟩
theorem DctAt.eq {h : Hd} {p N : Nat} {F F' : Int → Int → Option D} (d : DctAt h p N F) (e : ∀ a b, F a b = F' a b) : DctAt h p N F' := by
  have : F = F' := by funext a b; exact e a b
  rw [← this]; exact d
def inD (p : Nat × Call) : D := .tup [.int (p.1 : Nat), p.2.d]
theorem enum_enumC : ∀ (cs : List Call) (k : Nat), enumD (k : Nat) (cs.map Call.d) = (enumC k cs).map inD
  | [], _ => rfl
  | c :: cs, k => by
    have ek : ((k : Nat) : Int) + 1 = ((k + 1 : Nat) : Int) := by omega
    simp only [List.map_cons, enumD, enumC, ek, enum_enumC cs (k + 1), inD]
noncomputable def intoF (cs : List Call) (s : Int) : D → Option D
  | .tup [a, .tup [.int c, .int t, o, x, y]] => if t = s ∧ Reach cs c then some (.tup [a, .tup [.int c, .int t, o, x, y]]) else none
  | _ => none
theorem intoF_inD (cs : List Call) (s : Int) (p : Nat × Call) : intoF cs s (inD p) = if p.2.t = s ∧ Reach cs p.2.c then some (inD p) else none := rfl
theorem intoF_eq (cs : List Call) (s : Int) : ∀ l : List (Nat × Call), (l.map inD).filterMap (intoF cs s) = (l.filter fun p => decide (p.2.t = s) && decide (Reach cs p.2.c)).map inD
  | [] => rfl
  | p :: l => by
    have ih := intoF_eq cs s l
    rw [List.map_cons, List.filterMap_cons, List.filter_cons, intoF_inD]
    by_cases h : p.2.t = s ∧ Reach cs p.2.c
    · have e : (decide (p.2.t = s) && decide (Reach cs p.2.c)) = true := by simp [h]
      rw [if_pos h, if_pos e, List.map_cons, ih]
    · have e : ¬ ((decide (p.2.t = s) && decide (Reach cs p.2.c)) = true) := by simpa using h
      rw [if_neg h, if_neg e, ih]
theorem in_rch {n S C M : Int} {cs : List Call} (sys : SysOk S C M n cs) {c : Int} {h : Hd} {Q : QP} : oIn (.int c) (.lst ((rch n cs).map D.int)) h Q ↔ Q (.bl (decide (Reach cs c))) h := by
  have e : (((rch n cs).map D.int).any fun z => eqv z (.int c)) = decide (Reach cs c) := by
    have : ∀ F : List Int, ((F.map D.int).any fun z => eqv z (.int c)) = decide (c ∈ F) := by
      intro F
      induction F with
      | nil => rfl
      | cons i F ih =>
        simp only [List.map_cons, List.any_cons, ih, eqv_int, List.mem_cons]
        by_cases h : i = c
        · subst h; simp
        · have h' : ¬ c = i := fun e => h e.symm
          simp [h, h']
    rw [this]
    exact decide_eq_decide.mpr (rch_mem sys c)
  constructor
  · rintro ⟨_, _, q⟩
    rw [e] at q
    exact q
  · intro q
    refine ⟨by simp [plain], plainL_of fun d hd => ?_, by rw [e]; exact q⟩
    obtain ⟨i, _, rfl⟩ := List.mem_map.mp hd
    simp [plain]
noncomputable def tabF (n : Int) (cs : List Call) (pg ps : Nat) : HObj := .ins "DifferenceTable" [("system", sysD n cs), ("services", .lst ((rch n cs).map D.int)), ("greatest", .ref pg), ("steps", .ref ps)]
def msgL (p : Nat × Call) : D := .tup [.int (p.1 : Nat), .int ((p.2.offs.length : Int) - 1), .int p.2.hi]
def msgE (p : Nat × Call) : D := .tup [.int (p.1 : Nat), .int 0, .int p.2.lo]
theorem into_split {cs : List Call} {s : Int} {dn : List (Nat × Call)} {p : Nat × Call} {rs : List (Nat × Call)} (e : into cs s = dn ++ p :: rs) : p ∈ into cs s := by rw [e]; simp
/-- the best message so far, as data -/
def bstD (val : Nat × Call → Int) (m : Nat × Call → D) : Option (Nat × Call) → D
  | none => .non
  | some p => .tup [.int (val p), m p]
/-- the last offset, the first -/
theorem ix_tlast {os : List Int} {h : Hd} {Q : QP} (ne : os ≠ []) : oIx (.tup (os.map D.int)) (.int (-1)) h Q ↔ Q (.int ((os.getLast?).getD 0)) h := by
  have hl : 0 < os.length := List.length_pos_iff.mpr ne
  have e : (os.map D.int)[ixP (os.map D.int).length (-1)]? = some (.int ((os.getLast?).getD 0)) := by
    have : ixP (os.map D.int).length (-1) = os.length - 1 := by unfold ixP; simp; omega
    rw [this, List.getElem?_map, ← List.getLast?_eq_getElem?]
    rw [List.getLast?_eq_some_getLast ne]
    rfl
  constructor
  · rintro ⟨i, v', e1, _, e2, q⟩
    cases e1
    rw [e] at e2
    cases e2
    exact q
  · exact fun q => ⟨-1, _, rfl, ⟨by simp; omega, by omega⟩, e, q⟩
theorem ix_tfirst {os : List Int} {h : Hd} {Q : QP} (ne : os ≠ []) : oIx (.tup (os.map D.int)) (.int 0) h Q ↔ Q (.int ((os.head?).getD 0)) h := by
  cases os with
  | nil => exact absurd rfl ne
  | cons o os => exact ix_tl (by omega) rfl
end G
end S_PT2
section S_PM4
set_option linter.all false
set_option maxRecDepth 100000
/-! PM4: by which request a service remembered. -/
namespace G
open Dm
/-- what is ignored is remembered by an act told -/
def EvB (ws : Int → Int) (evb : List (Ev × Int)) : Prop := ∀ pre e b post, evb = pre ++ (e, b) :: post → e.act = false → ∃ a ∈ pre, a.1.s = e.s ∧ a.1.act = true ∧ a.1.r = b ∧ e.t ≤ a.1.t + ws a.1.s
structure EvB2 (ws : Int → Int) (st : Sim) (evb : List (Ev × Int)) : Prop where
  b : EvB ws evb
  a : ∀ s, ∀ a ∈ st.acts s, ∃ p ∈ evb, p.1.s = s ∧ p.1.act = true ∧ p.1.t = a.1 ∧ p.1.r = a.2
theorem snoc_split2 {α : Type} {l pre post : List α} {x e : α} (h : l ++ [x] = pre ++ e :: post) : (post = [] ∧ pre = l ∧ e = x) ∨ ∃ post', post = post' ++ [x] ∧ l = pre ++ e :: post' := by
  rcases List.eq_nil_or_concat post with rfl | ⟨p', y, rfl⟩
  · have := List.append_inj' h rfl
    exact .inl ⟨rfl, this.1.symm, by simpa using this.2.symm⟩
  · have h' : l ++ [x] = (pre ++ e :: p') ++ [y] := by rw [h]; simp
    have := List.append_inj' h' rfl
    have e1 : x = y := by simpa using this.2
    exact .inr ⟨p', by rw [e1, List.concat_eq_append], this.1⟩
theorem evb0 (ws : Int → Int) (ts : List Int) : EvB2 ws (sim0 ts) [] := ⟨fun pre e b post h => by simp at h, fun s a ha => by cases ha⟩
theorem evb_quiet {ws : Int → Int} {st : Sim} {x : Arr} {evb : List (Ev × Int)} {a : Int × Int} {pe : List Arr} {ev : List Ev} (I : EvB2 ws st evb) (hq : st.quiet ws x = true) (ha : (st.acts x.s).getLast? = some a) : EvB2 ws ⟨pe, ev, st.acts⟩ (evb ++ [(⟨x.t, x.s, x.r, false⟩, a.2)]) := by
  refine ⟨fun pre e b post h hn => ?_, fun s c hc => ?_⟩
  · rcases snoc_split2 h with ⟨_, rfl, e1⟩ | ⟨post', _, h'⟩
    · cases e1
      obtain ⟨p, hp, p1, p2, p3, p4⟩ := I.a x.s a (List.mem_of_getLast? ha)
      refine ⟨p, hp, p1, p2, p4, ?_⟩
      unfold Sim.quiet Sim.memo at hq
      rw [ha] at hq
      simp at hq
      rw [p1, p3]
      exact hq
    · exact I.b pre e b post' h' hn
  · obtain ⟨p, hp, r⟩ := I.a s c hc
    exact ⟨p, List.mem_append.mpr (.inl hp), r⟩
theorem evb_act {ws : Int → Int} {st : Sim} {x : Arr} {evb : List (Ev × Int)} {b0 : Int} {pe : List Arr} {ev : List Ev} (I : EvB2 ws st evb) : EvB2 ws ⟨pe, ev, setA st.acts x.s (st.acts x.s ++ [(x.t, x.r)])⟩ (evb ++ [(⟨x.t, x.s, x.r, true⟩, b0)]) := by
  refine ⟨fun pre e b post h hn => ?_, fun s c hc => ?_⟩
  · rcases snoc_split2 h with ⟨_, rfl, e1⟩ | ⟨post', _, h'⟩
    · cases e1
      cases hn
    · exact I.b pre e b post' h' hn
  · have hc' : c ∈ st.acts s ∨ (s = x.s ∧ c = (x.t, x.r)) := by
      have hc2 : c ∈ setA st.acts x.s (st.acts x.s ++ [(x.t, x.r)]) s := hc
      unfold setA at hc2
      split at hc2
      · rename_i e
        rcases List.mem_append.mp hc2 with w | w
        · exact .inl (by rw [e]; exact w)
        · exact .inr ⟨e, List.mem_singleton.mp w⟩
      · exact .inl hc2
    rcases hc' with w | ⟨rfl, rfl⟩
    · obtain ⟨p, hp, r⟩ := I.a s c w
      exact ⟨p, List.mem_append.mpr (.inl hp), r⟩
    · exact ⟨_, List.mem_append.mpr (.inr List.mem_cons_self), rfl, rfl, rfl, rfl⟩
end G
end S_PM4
section S_PM5
set_option linter.all false
set_option maxRecDepth 100000
/-! PM5: comparing numbers; drawn windows. -/
namespace G
open Dm
theorem ne_int {a b : Int} {h : Hd} {Q : QP} : oNe (.int a) (.int b) h Q ↔ Q (.bl (!decide (a = b))) h := by
  unfold oNe
  simp [vw, plain, eqv_int]
theorem eq_int {a b : Int} {h : Hd} {Q : QP} : oEq (.int a) (.int b) h Q ↔ Q (.bl (decide (a = b))) h := by
  unfold oEq
  simp [vw, plain, eqv_int]
theorem ne_bl {a b : Bool} {h : Hd} {Q : QP} : oNe (.bl a) (.bl b) h Q ↔ Q (.bl (!(a == b))) h := by
  unfold oNe
  simp [vw, plain, eqv]
theorem lt_int {a b : Int} {h : Hd} {Q : QP} : oLt (.int a) (.int b) h Q ↔ Q (.bl (decide (a < b))) h := Iff.rfl
theorem le_int {a b : Int} {h : Hd} {Q : QP} : oLe (.int a) (.int b) h Q ↔ Q (.bl (decide (a ≤ b))) h := Iff.rfl
theorem gt_int {a b : Int} {h : Hd} {Q : QP} : oGt (.int a) (.int b) h Q ↔ Q (.bl (decide (b < a))) h := Iff.rfl
theorem ge_int {a b : Int} {h : Hd} {Q : QP} : oGe (.int a) (.int b) h Q ↔ Q (.bl (decide (b ≤ a))) h := Iff.rfl
/-- windows of which each is a little longer -/
theorem lc_wins {ns : List Int} {p : Nat} {g : TG} {t : TT} {e : TE} {s : St} {Q : List D → Hd → Prop} {B : Int}
    (hstep : ∀ w h' (K : D → Hd → Prop) (N : Hd → Prop), DiceAt ns h' p → (∀ v h'', 0 ≤ v → v < B → DiceAt ns h'' p → Off p h' h'' → K (.int (w + v)) h'') → g (.int w) s h' (fun _ _ => False) fun s2 h2 => t s2 h2 (fun _ _ => False) fun b h3 => if b = true then e s2 h3 (fun _ _ => False) K else N h3)
    (ws : List Int) {h : Hd} (dc : DiceAt ns h p)
    (q : ∀ (wd : List Int) h', wd.length = ws.length → (∀ (i : Nat) (u : Int), wd[i]? = some u → ∃ w, ws[i]? = some w ∧ w ≤ u ∧ u < w + B) → DiceAt ns h' p → Off p h h' → Q (wd.map D.int) h') : lcL (fun _ => True) g t e s Q (ws.map D.int) [] h := by
  refine lcL_ind (fun r acc h' => DiceAt ns h' p ∧ Off p h h' ∧ ∃ dn rs wd : List Int, r = rs.map D.int ∧ ws = dn ++ rs ∧ acc = wd.map D.int ∧ wd.length = dn.length ∧ ∀ (i : Nat) (u : Int), wd[i]? = some u → ∃ w, ws[i]? = some w ∧ w ≤ u ∧ u < w + B) ?_ ?_ _ _ _ ⟨dc, Off.refl _ _, [], ws, [], rfl, rfl, rfl, rfl, fun i u hu => by simp at hu⟩
  · rintro d r acc h' K2 hK2 ⟨dc4, of4, dn, rs, wd, hr, he, rfl, hl, hw⟩
    cases rs with
    | nil => simp at hr
    | cons w rs =>
      simp only [List.map_cons, List.cons.injEq] at hr
      obtain ⟨rfl, rfl⟩ := hr
      refine hstep w h' (fun y h4 => True ∧ K2 (wd.map D.int ++ [y]) h4) (fun h3 => True ∧ K2 (wd.map D.int) h3) dc4 fun v h'' lo hi dc5 of5 => ⟨trivial, ?_⟩
      refine hK2 _ _ ⟨dc5, of4.trans of5, dn ++ [w], rs, wd ++ [w + v], rfl, by rw [he]; simp, by simp, by simp [hl], fun i u hu => ?_⟩
      by_cases hi : i < wd.length
      · rw [List.getElem?_append_left hi] at hu
        exact hw i u hu
      · have : i = wd.length := by
          have := (List.getElem?_eq_some_iff.mp hu).1
          simp at this
          omega
        subst this
        simp at hu
        subst hu
        refine ⟨w, ?_, by omega, by omega⟩
        rw [he, hl]
        simp
  · rintro acc h4 ⟨dc4, of4, dn, rs, wd, hr, he, rfl, hl, hw⟩
    have hrs : rs = [] := by
      cases rs with
      | nil => rfl
      | cons _ _ => simp at hr
    subst hrs
    rw [List.append_nil] at he
    exact q wd h4 (by rw [hl, ← he]) hw dc4 of4
/-- x == y, x != y for the same plain lists -/
theorem plain_ints (l : List Int) : ∀ d ∈ l.map D.int, plain 49 d = true := fun d hd => by
  obtain ⟨i, _, rfl⟩ := List.mem_map.mp hd
  rfl
theorem plainL_ints : ∀ (n : Nat) (l : List Int), plainL n (l.map D.int) = true
  | _, [] => rfl
  | n, i :: l => by simp [plainL, plain, plainL_ints n l]
end G
end S_PM5
section S_WSp
set_option linter.all false
set_option maxRecDepth 100000
/-! WSp: the ways from one service to another, and the promise of the def that finds them. -/
namespace G
open Dm
def wy1 (f : Int → List (List Nat)) (cs : List Call) (a : Int) (i : Nat) : List (List Nat) := match cs[i]? with
  | some c => if c.c = a then (f c.t).map (i :: ·) else []
  | none => []
def ways (cs : List Call) : Nat → Int → Int → List (List Nat)
  | 0, _, _ => []
  | k + 1, a, b => if a = b then [[]] else (List.range cs.length).flatMap (wy1 (fun t => ways cs k t b) cs a)
def wayD (w : List Nat) : D := .lst (w.map fun i => D.int (i : Nat))
/-- the def that finds the ways -/
def rec__law_ways : Nat → Sp
  | 0 => fun _ _ _ _ => False
  | k + 1 => fun ds h _ Q => ∃ n cs a b, SysOk 5 7 99 n cs ∧ ds = [sysD n cs, .int a, .int b] ∧ 0 ≤ a ∧ a < n ∧ n - a ≤ k ∧ Q (.lst ((ways cs (k + 1) a b).map wayD)) h
def sp__law_ways : Sp := rec__law_ways 8
theorem rec0__law_ways : ∀ ds h E Q, ¬ rec__law_ways 0 ds h E Q := fun _ _ _ _ q => q
theorem len__law_ways : ∀ n ds h E Q, rec__law_ways n ds h E Q → ds.length = 3
  | 0, _, _, _, _, q => q.elim
  | n + 1, _, _, _, _, ⟨_, _, _, _, _, e, _⟩ => by rw [e]; rfl
theorem nx__law_ways : ∀ n ds h E Q, rec__law_ways n ds h E Q → rec__law_ways n ds h (fun _ _ => False) Q
  | 0, _, _, _, _, q => q
  | _ + 1, _, _, _, _, q => q
section
variable {n S C M : Int} {cs : List Call} (sys : SysOk S C M n cs) (hC : C ≤ 7)
include sys hC
theorem sum_le (f : Nat → List (List Nat)) (B : Nat) (h : ∀ i, (f i).length ≤ B) : ∀ i : Nat, ((List.range i).flatMap f).length ≤ i * B
  | 0 => by simp
  | i + 1 => by
    have ih := sum_le f B h i
    rw [List.range_succ, List.flatMap_append, List.length_append, Nat.add_mul]
    simp only [List.flatMap_cons, List.flatMap_nil, List.append_nil, Nat.one_mul]
    have := h i
    omega
theorem ways_len : ∀ (k : Nat) (a b : Int) (e : Nat), 0 ≤ a → n - 1 - a = e → (ways cs k a b).length ≤ 7 ^ e
  | 0, a, b, e, _, _ => by simp [ways]
  | k + 1, a, b, e, h0, h => by
    unfold ways
    split
    · simp
      exact Nat.le_trans Nat.one_le_two_pow (Nat.pow_le_pow_left (by omega) e)
    · have hl : cs.length ≤ 7 := by have := sys.len; omega
      cases e with
      | zero =>
        have : ∀ i, wy1 (fun t => ways cs k t b) cs a i = [] := fun i => by
          unfold wy1
          split
          · rename_i c hc
            split
            · rename_i hca
              have ok := sys.cs c (List.mem_of_getElem? hc)
              have := ok.ct
              have := ok.tn
              omega
            · rfl
          · rfl
        have e2 : wy1 (fun t => ways cs k t b) cs a = fun _ => [] := funext this
        rw [e2]
        have : ∀ l : List Nat, l.flatMap (fun _ => ([] : List (List Nat))) = [] := fun l => by
          induction l with
          | nil => rfl
          | cons x l ih => rw [List.flatMap_cons, ih]; rfl
        rw [this]
        simp
      | succ e =>
        have := sum_le sys hC (wy1 (fun t => ways cs k t b) cs a) (7 ^ e) (fun i => by
          unfold wy1
          split
          · rename_i c hc
            split
            · rename_i hca
              have ok := sys.cs c (List.mem_of_getElem? hc)
              have := ok.ct
              have := ok.tn
              have := ok.c0
              rw [List.length_map]
              have ih := ways_len k c.t b (n - 1 - c.t).toNat (by omega) (by omega)
              exact Nat.le_trans ih (Nat.pow_le_pow_right (by omega) (by omega))
            · simp
          · simp) cs.length
        have e3 : cs.length * 7 ^ e ≤ 7 * 7 ^ e := Nat.mul_le_mul_right _ hl
        rw [Nat.pow_succ]
        omega
theorem wy_len {a b : Int} {k : Nat} (hn : n ≤ 5) (a0 : 0 ≤ a) (an : a < n) (i : Nat) (hi : i ≤ cs.length) : ((List.range i).flatMap (wy1 (fun t => ways cs k t b) cs a)).length ≤ 20000 := by
  have hl : cs.length ≤ 7 := by have := sys.len; omega
  have := sum_le sys hC (wy1 (fun t => ways cs k t b) cs a) (7 ^ 4) (fun i => by
    unfold wy1
    split
    · rename_i c hc
      split
      · rename_i hca
        have ok := sys.cs c (List.mem_of_getElem? hc)
        have := ok.ct
        have := ok.tn
        have := ok.c0
        rw [List.length_map]
        have ih := ways_len sys hC k c.t b (n - 1 - c.t).toNat (by omega) (by omega)
        exact Nat.le_trans ih (Nat.pow_le_pow_right (by omega) (by omega))
      · simp
    · simp) i
  omega
theorem way_len : ∀ (k : Nat) (a b : Int), n - a ≤ k → a < n → ∀ w ∈ ways cs k a b, (w.length : Int) ≤ n - 1 - a
  | 0, a, b, _, _, w, hw => by simp [ways] at hw
  | k + 1, a, b, hk, ha, w, hw => by
    unfold ways at hw
    split at hw
    · simp at hw
      subst hw
      simp
      omega
    · obtain ⟨i, hi, hw⟩ := List.mem_flatMap.mp hw
      unfold wy1 at hw
      split at hw
      · rename_i c hc
        split at hw
        · obtain ⟨w', hw', rfl⟩ := List.mem_map.mp hw
          have ok := sys.cs c (List.mem_of_getElem? hc)
          have := ok.ct
          have := ok.tn
          have := way_len k c.t b (by omega) (by omega) w' hw'
          simp
          omega
        · cases hw
      · cases hw
end
theorem add_lst {a b : List D} {h : Hd} {Q : QP} : oAdd (.lst a) (.lst b) h Q ↔ a.length + b.length ≤ lim ∧ Q (.lst (a ++ b)) h := Iff.rfl
def consF (i : Nat) : D → Option D
  | .lst xs => some (.lst (.int (i : Nat) :: xs))
  | _ => none
theorem consF_map (i : Nat) : ∀ l : List (List Nat), (l.map wayD).filterMap (consF i) = (l.map (i :: ·)).map wayD
  | [] => rfl
  | w :: l => by
    have ih := consF_map i l
    have e : consF i (wayD w) = some (wayD (i :: w)) := rfl
    rw [List.map_cons, List.filterMap_cons, e]
    simp only
    rw [ih]
    rfl
end G
end S_WSp
section S_G1_k16
set_option linter.all false
set_option maxRecDepth 100000
/-! the law's text as transformers: printed by gen.py -/
namespace G
open PySem (Str)
def t__law_dice : Dm.TS := Dm.sSeq (Dm.sAsg (Dm.eC (.int 0)) (Dm.gN 1)) (Dm.sSeq (Dm.sFor (Dm.iSeq (Dm.eVar 0)) (Dm.gN 2) (Dm.sAsg (Dm.eBin Dm.oMod (Dm.eBin Dm.oAdd (Dm.eBin Dm.oAdd (Dm.eBin Dm.oMul (Dm.eVar 1) (Dm.eC (.int 48271))) (Dm.eBin Dm.oMul (Dm.eBin Dm.oMod (Dm.eB Dm.bInt (Dm.aCons (Dm.eVar 2) (Dm.aNil))) (Dm.eC (.int 2147483647))) (Dm.eC (.int 69621)))) (Dm.eC (.int 11))) (Dm.eC (.int 2147483647))) (Dm.gN 1))) (Dm.sRet (Dm.eLstH (Dm.aCons (Dm.eVar 0) (Dm.aCons (Dm.eC (.int 0)) (Dm.aCons (Dm.eBin Dm.oMul (Dm.eVar 1) (Dm.eB Dm.bInt (Dm.aCons (Dm.eBin Dm.oGt (Dm.eB Dm.bLen (Dm.aCons (Dm.eVar 0) (Dm.aNil))) (Dm.eC (.int 2))) (Dm.aNil)))) (Dm.aCons (Dm.eC (.int 0)) (Dm.aNil))))))))
def sp__law_dice : Dm.Sp := Dm.inl 1 3 t__law_dice
def t__law_next : Dm.TS := Dm.sSeq (Dm.sIf (Dm.tE (Dm.eBin Dm.oGt (Dm.eBin Dm.oIx (Dm.eVar 0) (Dm.eC (.int 3))) (Dm.eC (.int 0)))) (Dm.sSeq (Dm.sAsg (Dm.eBin Dm.oMod (Dm.eB Dm.bInt (Dm.aCons (Dm.eBin Dm.oIx (Dm.eVar 0) (Dm.eC (.int 3))) (Dm.aNil))) (Dm.eVar 1)) (Dm.gN 2)) (Dm.sSeq (Dm.sAsg (Dm.eBin Dm.oFdiv (Dm.eBin Dm.oIx (Dm.eVar 0) (Dm.eC (.int 3))) (Dm.eVar 1)) (Dm.gLst (Dm.eVar 0) (Dm.eC (.int 3)))) (Dm.sRet (Dm.eVar 2)))) (Dm.sNext)) (Dm.sSeq (Dm.sAsg (Dm.eBin Dm.oAdd (Dm.eBin Dm.oIx (Dm.eVar 0) (Dm.eC (.int 1))) (Dm.eC (.int 1))) (Dm.gLst (Dm.eVar 0) (Dm.eC (.int 1)))) (Dm.sSeq (Dm.sIf (Dm.tE (Dm.eBin Dm.oLe (Dm.eBin Dm.oIx (Dm.eVar 0) (Dm.eC (.int 1))) (Dm.eB Dm.bLen (Dm.aCons (Dm.eBin Dm.oIx (Dm.eVar 0) (Dm.eC (.int 0))) (Dm.aNil))))) (Dm.sSeq (Dm.sAsg (Dm.eBin Dm.oIx (Dm.eBin Dm.oIx (Dm.eVar 0) (Dm.eC (.int 0))) (Dm.eBin Dm.oSub (Dm.eBin Dm.oIx (Dm.eVar 0) (Dm.eC (.int 1))) (Dm.eC (.int 1)))) (Dm.gN 3)) (Dm.sSeq (Dm.sAsg (Dm.eIf (Dm.tE (Dm.eBin Dm.oGe (Dm.eVar 3) (Dm.eBin Dm.oPow (Dm.eC (.int 10)) (Dm.eC (.int 18))))) (Dm.eBin Dm.oFdiv (Dm.eVar 3) (Dm.eVar 1)) (Dm.eC (.int 0))) (Dm.gLst (Dm.eVar 0) (Dm.eC (.int 3)))) (Dm.sRet (Dm.eBin Dm.oMod (Dm.eB Dm.bInt (Dm.aCons (Dm.eVar 3) (Dm.aNil))) (Dm.eVar 1))))) (Dm.sNext)) (Dm.sSeq (Dm.sAsg (Dm.eBin Dm.oMod (Dm.eB Dm.bInt (Dm.aCons (Dm.eBin Dm.oMul (Dm.eBin Dm.oIx (Dm.eVar 0) (Dm.eC (.int 2))) (Dm.eC (.int 48271))) (Dm.aNil))) (Dm.eC (.int 2147483647))) (Dm.gLst (Dm.eVar 0) (Dm.eC (.int 2)))) (Dm.sRet (Dm.eBin Dm.oMod (Dm.eBin Dm.oFdiv (Dm.eBin Dm.oIx (Dm.eVar 0) (Dm.eC (.int 2))) (Dm.eC (.int 7))) (Dm.eVar 1))))))
def sp__law_next : Dm.Sp := Dm.inl 2 4 t__law_next
def t__law_call : Dm.TS := Dm.sSeq (Dm.sAsg (Dm.eCall sp__law_next (Dm.aCons (Dm.eVar 0) (Dm.aCons (Dm.eBin Dm.oSub (Dm.eVar 1) (Dm.eC (.int 1))) (Dm.aNil)))) (Dm.gN 3)) (Dm.sSeq (Dm.sAsg (Dm.eBin Dm.oAdd (Dm.eBin Dm.oAdd (Dm.eVar 3) (Dm.eC (.int 1))) (Dm.eCall sp__law_next (Dm.aCons (Dm.eVar 0) (Dm.aCons (Dm.eBin Dm.oSub (Dm.eBin Dm.oSub (Dm.eVar 1) (Dm.eC (.int 1))) (Dm.eVar 3)) (Dm.aNil))))) (Dm.gN 4)) (Dm.sSeq (Dm.sAsg (Dm.eB Dm.bSortedSet (Dm.aCons (Dm.eB Dm.bSet (Dm.aCons (Dm.eLc (Dm.iRng1 (Dm.eBin Dm.oAdd (Dm.eC (.int 1)) (Dm.eCall sp__law_next (Dm.aCons (Dm.eVar 0) (Dm.aCons (Dm.eC (.int 4)) (Dm.aNil)))))) (Dm.gN 6) (Dm.tYes) (Dm.eCall sp__law_next (Dm.aCons (Dm.eVar 0) (Dm.aCons (Dm.eBin Dm.oAdd (Dm.eVar 2) (Dm.eC (.int 1))) (Dm.aNil)))) [6]) (Dm.aNil))) (Dm.aNil))) (Dm.gN 5)) (Dm.sSeq (Dm.sAsg (Dm.eCall sp__law_next (Dm.aCons (Dm.eVar 0) (Dm.aCons (Dm.eBin Dm.oAdd (Dm.eVar 2) (Dm.eC (.int 1))) (Dm.aNil)))) (Dm.gN 7)) (Dm.sRet (Dm.eTup (Dm.aCons (Dm.eVar 3) (Dm.aCons (Dm.eVar 4) (Dm.aCons (Dm.eB Dm.bTuple (Dm.aCons (Dm.eVar 5) (Dm.aNil))) (Dm.aCons (Dm.eVar 7) (Dm.aCons (Dm.eBin Dm.oAdd (Dm.eVar 7) (Dm.eCall sp__law_next (Dm.aCons (Dm.eVar 0) (Dm.aCons (Dm.eBin Dm.oSub (Dm.eBin Dm.oAdd (Dm.eVar 2) (Dm.eC (.int 1))) (Dm.eVar 7)) (Dm.aNil))))) (Dm.aNil)))))))))))
def sp__law_call : Dm.Sp := Dm.inl 3 8 t__law_call
def t__law_system : Dm.TS := Dm.sSeq (Dm.sAsg (Dm.eTup (Dm.aCons (Dm.eBin Dm.oAdd (Dm.eC (.int 1)) (Dm.eCall sp__law_next (Dm.aCons (Dm.eVar 0) (Dm.aCons (Dm.eVar 1) (Dm.aNil))))) (Dm.aCons (Dm.eLstH (Dm.aNil)) (Dm.aNil)))) (Dm.gTup 2 (Dm.gCons (Dm.gN 4) (Dm.gCons (Dm.gN 5) (Dm.gNil))))) (Dm.sSeq (Dm.sFor (Dm.iRng1 (Dm.eIf (Dm.tE (Dm.eBin Dm.oGt (Dm.eVar 4) (Dm.eC (.int 1)))) (Dm.eCall sp__law_next (Dm.aCons (Dm.eVar 0) (Dm.aCons (Dm.eBin Dm.oAdd (Dm.eVar 2) (Dm.eC (.int 1))) (Dm.aNil)))) (Dm.eC (.int 0)))) (Dm.gN 6) (Dm.sExpr (Dm.eM Dm.tyL Dm.mApp (Dm.eVar 5) (Dm.aCons (Dm.eCall sp__law_call (Dm.aCons (Dm.eVar 0) (Dm.aCons (Dm.eVar 4) (Dm.aCons (Dm.eVar 3) (Dm.aNil))))) (Dm.aNil))))) (Dm.sRet (Dm.eTup (Dm.aCons (Dm.eVar 4) (Dm.aCons (Dm.eB Dm.bTuple (Dm.aCons (Dm.eVar 5) (Dm.aNil))) (Dm.aNil))))))
def sp__law_system : Dm.Sp := Dm.inl 4 7 t__law_system
def t_is_integer : Dm.TS := Dm.sRet (Dm.eAnd (Dm.eB Dm.bIsi (Dm.aCons (Dm.eVar 0) (Dm.aCons (Dm.eC (.ty "int")) (Dm.aNil)))) (Dm.eAnd (Dm.eNot (Dm.eB Dm.bIsi (Dm.aCons (Dm.eVar 0) (Dm.aCons (Dm.eC (.ty "bool")) (Dm.aNil))))) (Dm.eChain Dm.oLe Dm.oLe (Dm.eVar 1) (Dm.eVar 0) (Dm.eVar 2))))
def sp_is_integer : Dm.Sp := Dm.inl 3 3 t_is_integer
def t_are_offsets : Dm.TS := Dm.sSeq (Dm.sIf (Dm.tOr (Dm.tNot (Dm.tE (Dm.eB Dm.bIsi (Dm.aCons (Dm.eVar 0) (Dm.aCons (Dm.eC (.ty "tuple")) (Dm.aNil)))))) (Dm.tNot (Dm.tE (Dm.eChain Dm.oLe Dm.oLe (Dm.eC (.int 1)) (Dm.eB Dm.bLen (Dm.aCons (Dm.eVar 0) (Dm.aNil))) (Dm.eC (.int 4)))))) (Dm.sRet (Dm.eC (.bl false))) (Dm.sNext)) (Dm.sSeq (Dm.sIf (Dm.tNot (Dm.tE (Dm.eB Dm.bAll (Dm.aCons (Dm.eLc (Dm.iSeq (Dm.eVar 0)) (Dm.gN 1) (Dm.tYes) (Dm.eCall sp_is_integer (Dm.aCons (Dm.eVar 1) (Dm.aCons (Dm.eC (.int 0)) (Dm.aCons (Dm.eC (.int 99)) (Dm.aNil))))) [1]) (Dm.aNil))))) (Dm.sRet (Dm.eC (.bl false))) (Dm.sNext)) (Dm.sRet (Dm.eB Dm.bAll (Dm.aCons (Dm.eLc (Dm.iZip (Dm.eVar 0) (Dm.eSl (Dm.eVar 0) (some (Dm.eC (.int 1))) (none))) (Dm.gTup 2 (Dm.gCons (Dm.gN 2) (Dm.gCons (Dm.gN 3) (Dm.gNil)))) (Dm.tYes) (Dm.eBin Dm.oLt (Dm.eVar 2) (Dm.eVar 3)) [2, 3]) (Dm.aNil)))))
def sp_are_offsets : Dm.Sp := Dm.inl 1 4 t_are_offsets
def t_is_call : Dm.TS := Dm.sSeq (Dm.sIf (Dm.tOr (Dm.tNot (Dm.tE (Dm.eB Dm.bIsi (Dm.aCons (Dm.eVar 1) (Dm.aCons (Dm.eC (.ty "tuple")) (Dm.aNil)))))) (Dm.tE (Dm.eBin Dm.oNe (Dm.eB Dm.bLen (Dm.aCons (Dm.eVar 1) (Dm.aNil))) (Dm.eC (.int 5))))) (Dm.sRet (Dm.eC (.bl false))) (Dm.sNext)) (Dm.sSeq (Dm.sAsg (Dm.eVar 1) (Dm.gTup 5 (Dm.gCons (Dm.gN 2) (Dm.gCons (Dm.gN 3) (Dm.gCons (Dm.gN 4) (Dm.gCons (Dm.gN 5) (Dm.gCons (Dm.gN 6) (Dm.gNil)))))))) (Dm.sSeq (Dm.sIf (Dm.tOr (Dm.tNot (Dm.tE (Dm.eCall sp_is_integer (Dm.aCons (Dm.eVar 2) (Dm.aCons (Dm.eC (.int 0)) (Dm.aCons (Dm.eBin Dm.oSub (Dm.eVar 0) (Dm.eC (.int 1))) (Dm.aNil))))))) (Dm.tNot (Dm.tE (Dm.eCall sp_is_integer (Dm.aCons (Dm.eVar 3) (Dm.aCons (Dm.eBin Dm.oAdd (Dm.eVar 2) (Dm.eC (.int 1))) (Dm.aCons (Dm.eBin Dm.oSub (Dm.eVar 0) (Dm.eC (.int 1))) (Dm.aNil)))))))) (Dm.sRet (Dm.eC (.bl false))) (Dm.sNext)) (Dm.sRet (Dm.eAnd (Dm.eCall sp_are_offsets (Dm.aCons (Dm.eVar 4) (Dm.aNil))) (Dm.eAnd (Dm.eCall sp_is_integer (Dm.aCons (Dm.eVar 5) (Dm.aCons (Dm.eC (.int 0)) (Dm.aCons (Dm.eC (.int 99)) (Dm.aNil))))) (Dm.eCall sp_is_integer (Dm.aCons (Dm.eVar 6) (Dm.aCons (Dm.eVar 5) (Dm.aCons (Dm.eC (.int 99)) (Dm.aNil))))))))))
def sp_is_call : Dm.Sp := Dm.inl 2 7 t_is_call
def t_check_system : Dm.TS := Dm.sSeq (Dm.sIf (Dm.tOr (Dm.tNot (Dm.tE (Dm.eB Dm.bIsi (Dm.aCons (Dm.eVar 0) (Dm.aCons (Dm.eC (.ty "tuple")) (Dm.aNil)))))) (Dm.tE (Dm.eBin Dm.oNe (Dm.eB Dm.bLen (Dm.aCons (Dm.eVar 0) (Dm.aNil))) (Dm.eC (.int 2))))) (Dm.sNever) (Dm.sNext)) (Dm.sSeq (Dm.sAsg (Dm.eVar 0) (Dm.gTup 2 (Dm.gCons (Dm.gN 1) (Dm.gCons (Dm.gN 2) (Dm.gNil))))) (Dm.sSeq (Dm.sIf (Dm.tNot (Dm.tE (Dm.eCall sp_is_integer (Dm.aCons (Dm.eVar 1) (Dm.aCons (Dm.eC (.int 1)) (Dm.aCons (Dm.eC (.int 8)) (Dm.aNil))))))) (Dm.sNever) (Dm.sNext)) (Dm.sSeq (Dm.sIf (Dm.tNot (Dm.tE (Dm.eB Dm.bIsi (Dm.aCons (Dm.eVar 2) (Dm.aCons (Dm.eC (.ty "tuple")) (Dm.aNil)))))) (Dm.sNever) (Dm.sNext)) (Dm.sFor (Dm.iEnum (Dm.eVar 2)) (Dm.gTup 2 (Dm.gCons (Dm.gN 3) (Dm.gCons (Dm.gN 4) (Dm.gNil)))) (Dm.sIf (Dm.tOr (Dm.tE (Dm.eBin Dm.oEq (Dm.eVar 3) (Dm.eC (.int 20)))) (Dm.tNot (Dm.tE (Dm.eCall sp_is_call (Dm.aCons (Dm.eVar 1) (Dm.aCons (Dm.eVar 4) (Dm.aNil))))))) (Dm.sNever) (Dm.sNext))))))
def sp_check_system : Dm.Sp := Dm.inl 1 5 t_check_system
def t_reached : Dm.TS := Dm.sSeq (Dm.sAsg (Dm.eDlit [(.int 0, .bl true)]) (Dm.gN 1)) (Dm.sSeq (Dm.sFor (Dm.iSeq (Dm.eB Dm.bSorted (Dm.aCons (Dm.eBin Dm.oIx (Dm.eVar 0) (Dm.eC (.int 1))) (Dm.aNil)))) (Dm.gTup 5 (Dm.gCons (Dm.gN 2) (Dm.gCons (Dm.gN 3) (Dm.gCons (Dm.gN 4) (Dm.gCons (Dm.gN 5) (Dm.gCons (Dm.gN 6) (Dm.gNil))))))) (Dm.sIf (Dm.tE (Dm.eBin Dm.oIn (Dm.eVar 2) (Dm.eVar 1))) (Dm.sAsg (Dm.eC (.bl true)) (Dm.gDstI (Dm.eVar 1) (Dm.eVar 3))) (Dm.sNext))) (Dm.sRet (Dm.eB Dm.bSortedD (Dm.aCons (Dm.eVar 1) (Dm.aNil)))))
def sp_reached : Dm.Sp := Dm.inl 1 7 t_reached
def t_reachable_services : Dm.TS := Dm.sSeq (Dm.sExpr (Dm.eCall sp_check_system (Dm.aCons (Dm.eVar 0) (Dm.aNil)))) (Dm.sRet (Dm.eCall sp_reached (Dm.aCons (Dm.eVar 0) (Dm.aNil))))
def sp_reachable_services : Dm.Sp := Dm.inl 1 1 t_reachable_services
def t_calls_into : Dm.TS := Dm.sSeq (Dm.sAsg (Dm.eCall sp_reached (Dm.aCons (Dm.eVar 0) (Dm.aNil))) (Dm.gN 2)) (Dm.sRet (Dm.eLc (Dm.iEnum (Dm.eBin Dm.oIx (Dm.eVar 0) (Dm.eC (.int 1)))) (Dm.gTup 2 (Dm.gCons (Dm.gN 3) (Dm.gCons (Dm.gN 4) (Dm.gNil)))) (Dm.tAnd (Dm.tE (Dm.eBin Dm.oEq (Dm.eBin Dm.oIx (Dm.eVar 4) (Dm.eC (.int 1))) (Dm.eVar 1))) (Dm.tE (Dm.eBin Dm.oIn (Dm.eBin Dm.oIx (Dm.eVar 4) (Dm.eC (.int 0))) (Dm.eVar 2)))) (Dm.eTup (Dm.aCons (Dm.eVar 3) (Dm.aCons (Dm.eVar 4) (Dm.aNil)))) [3, 4]))
def sp_calls_into : Dm.Sp := Dm.inl 2 5 t_calls_into
def t_message_pairs : Dm.TS := Dm.sSeq (Dm.sAsg (Dm.eLstH (Dm.aNil)) (Dm.gN 2)) (Dm.sSeq (Dm.sFor (Dm.iSeq (Dm.eCall sp_calls_into (Dm.aCons (Dm.eFld "DifferenceTable" (Dm.eVar 0) "system") (Dm.aCons (Dm.eVar 1) (Dm.aNil))))) (Dm.gTup 2 (Dm.gCons (Dm.gN 3) (Dm.gCons (Dm.gTup 5 (Dm.gCons (Dm.gN 4) (Dm.gCons (Dm.gN 5) (Dm.gCons (Dm.gN 6) (Dm.gCons (Dm.gN 7) (Dm.gCons (Dm.gN 8) (Dm.gNil))))))) (Dm.gNil)))) (Dm.sFor (Dm.iEnum (Dm.eVar 6)) (Dm.gTup 2 (Dm.gCons (Dm.gN 9) (Dm.gCons (Dm.gN 10) (Dm.gNil)))) (Dm.sExpr (Dm.eM Dm.tyL Dm.mApp (Dm.eVar 2) (Dm.aCons (Dm.eTup (Dm.aCons (Dm.eVar 4) (Dm.aCons (Dm.eBin Dm.oAdd (Dm.eVar 10) (Dm.eVar 7)) (Dm.aCons (Dm.eBin Dm.oAdd (Dm.eVar 10) (Dm.eVar 8)) (Dm.aCons (Dm.eTup (Dm.aCons (Dm.eVar 3) (Dm.aCons (Dm.eVar 9) (Dm.aNil)))) (Dm.aNil)))))) (Dm.aNil)))))) (Dm.sSeq (Dm.sAsg (Dm.eLstH (Dm.aNil)) (Dm.gN 11)) (Dm.sSeq (Dm.sFor (Dm.iSeq (Dm.eVar 2)) (Dm.gTup 4 (Dm.gCons (Dm.gN 12) (Dm.gCons (Dm.gN 13) (Dm.gCons (Dm.gN 14) (Dm.gCons (Dm.gN 15) (Dm.gNil)))))) (Dm.sFor (Dm.iSeq (Dm.eVar 2)) (Dm.gTup 4 (Dm.gCons (Dm.gN 16) (Dm.gCons (Dm.gN 17) (Dm.gCons (Dm.gN 18) (Dm.gCons (Dm.gN 19) (Dm.gNil)))))) (Dm.sIf (Dm.tE (Dm.eBin Dm.oNe (Dm.eVar 15) (Dm.eVar 19))) (Dm.sExpr (Dm.eM Dm.tyL Dm.mApp (Dm.eVar 11) (Dm.aCons (Dm.eTup (Dm.aCons (Dm.eBin Dm.oSub (Dm.eBin Dm.oAdd (Dm.eBin Dm.oIx (Dm.eFld "DifferenceTable" (Dm.eVar 0) "greatest") (Dm.eTup (Dm.aCons (Dm.eVar 12) (Dm.aCons (Dm.eVar 16) (Dm.aNil))))) (Dm.eVar 14)) (Dm.eVar 17)) (Dm.aCons (Dm.eVar 15) (Dm.aCons (Dm.eVar 19) (Dm.aNil))))) (Dm.aNil)))) (Dm.sNext)))) (Dm.sSeq (Dm.sFrz 11) (Dm.sRet (Dm.eVar 11))))))
def sp_message_pairs : Dm.Sp := Dm.inl 2 20 t_message_pairs
def t_widest_pair : Dm.TS := Dm.sSeq (Dm.sAsg (Dm.eCall sp_message_pairs (Dm.aCons (Dm.eVar 0) (Dm.aCons (Dm.eVar 1) (Dm.aNil)))) (Dm.gN 2)) (Dm.sSeq (Dm.sIf (Dm.tE (Dm.eBin Dm.oEq (Dm.eVar 2) (Dm.eLst (Dm.aNil)))) (Dm.sRet (Dm.eC .non)) (Dm.sNext)) (Dm.sSeq (Dm.sAsg (Dm.eB Dm.bMax1 (Dm.aCons (Dm.eLc (Dm.iSeq (Dm.eVar 2)) (Dm.gN 4) (Dm.tYes) (Dm.eBin Dm.oIx (Dm.eVar 4) (Dm.eC (.int 0))) [4]) (Dm.aNil))) (Dm.gN 3)) (Dm.sRet (Dm.eB Dm.bMin1 (Dm.aCons (Dm.eLc (Dm.iSeq (Dm.eVar 2)) (Dm.gN 4) (Dm.tE (Dm.eBin Dm.oEq (Dm.eBin Dm.oIx (Dm.eVar 4) (Dm.eC (.int 0))) (Dm.eVar 3))) (Dm.eVar 4) [4]) (Dm.aNil))))))
def sp_widest_pair : Dm.Sp := Dm.inl 2 5 t_widest_pair
def t_find_least_windows : Dm.TS := Dm.sSeq (Dm.sAsg (Dm.eLstH (Dm.aNil)) (Dm.gN 1)) (Dm.sSeq (Dm.sFor (Dm.iRng1 (Dm.eBin Dm.oIx (Dm.eFld "DifferenceTable" (Dm.eVar 0) "system") (Dm.eC (.int 0)))) (Dm.gN 2) (Dm.sSeq (Dm.sAsg (Dm.eIf (Dm.tE (Dm.eBin Dm.oIn (Dm.eVar 2) (Dm.eFld "DifferenceTable" (Dm.eVar 0) "services"))) (Dm.eCall sp_widest_pair (Dm.aCons (Dm.eVar 0) (Dm.aCons (Dm.eVar 2) (Dm.aNil)))) (Dm.eC .non)) (Dm.gN 3)) (Dm.sExpr (Dm.eM Dm.tyL Dm.mApp (Dm.eVar 1) (Dm.aCons (Dm.eIf (Dm.tE (Dm.eUn Dm.oIsN (Dm.eVar 3))) (Dm.eC (.int 0)) (Dm.eBin Dm.oIx (Dm.eVar 3) (Dm.eC (.int 0)))) (Dm.aNil)))))) (Dm.sRet (Dm.eB Dm.bTuple (Dm.aCons (Dm.eVar 1) (Dm.aNil)))))
def sp_find_least_windows : Dm.Sp := Dm.inl 1 4 t_find_least_windows
def t_DifferenceTable_enter_later : Dm.TS := Dm.sSeq (Dm.sAsg (Dm.eC .non) (Dm.gN 3)) (Dm.sSeq (Dm.sFor (Dm.iSeq (Dm.eCall sp_calls_into (Dm.aCons (Dm.eFld "DifferenceTable" (Dm.eVar 0) "system") (Dm.aCons (Dm.eVar 1) (Dm.aNil))))) (Dm.gTup 2 (Dm.gCons (Dm.gN 4) (Dm.gCons (Dm.gTup 5 (Dm.gCons (Dm.gN 5) (Dm.gCons (Dm.gN 6) (Dm.gCons (Dm.gN 7) (Dm.gCons (Dm.gN 8) (Dm.gCons (Dm.gN 9) (Dm.gNil))))))) (Dm.gNil)))) (Dm.sSeq (Dm.sAsg (Dm.eBin Dm.oAdd (Dm.eBin Dm.oAdd (Dm.eBin Dm.oIx (Dm.eFld "DifferenceTable" (Dm.eVar 0) "greatest") (Dm.eTup (Dm.aCons (Dm.eVar 5) (Dm.aCons (Dm.eVar 2) (Dm.aNil))))) (Dm.eBin Dm.oIx (Dm.eVar 7) (Dm.eUn Dm.oNeg (Dm.eC (.int 1))))) (Dm.eVar 9)) (Dm.gN 10)) (Dm.sIf (Dm.tOr (Dm.tE (Dm.eUn Dm.oIsN (Dm.eVar 3))) (Dm.tE (Dm.eBin Dm.oGt (Dm.eVar 10) (Dm.eBin Dm.oIx (Dm.eVar 3) (Dm.eC (.int 0)))))) (Dm.sAsg (Dm.eTup (Dm.aCons (Dm.eVar 10) (Dm.aCons (Dm.eTup (Dm.aCons (Dm.eVar 4) (Dm.aCons (Dm.eBin Dm.oSub (Dm.eB Dm.bLen (Dm.aCons (Dm.eVar 7) (Dm.aNil))) (Dm.eC (.int 1))) (Dm.aCons (Dm.eVar 9) (Dm.aNil))))) (Dm.aNil)))) (Dm.gN 3)) (Dm.sNext)))) (Dm.sAsg (Dm.eVar 3) (Dm.gTup 2 (Dm.gCons (Dm.gDst (Dm.eFld "DifferenceTable" (Dm.eVar 0) "greatest") (Dm.eTup (Dm.aCons (Dm.eVar 1) (Dm.aCons (Dm.eVar 2) (Dm.aNil))))) (Dm.gCons (Dm.gDst (Dm.eFld "DifferenceTable" (Dm.eVar 0) "steps") (Dm.eTup (Dm.aCons (Dm.eVar 1) (Dm.aCons (Dm.eVar 2) (Dm.aNil))))) (Dm.gNil))))))
def sp_DifferenceTable_enter_later : Dm.Sp := Dm.inl 3 11 t_DifferenceTable_enter_later
def t_DifferenceTable_enter_earlier : Dm.TS := Dm.sSeq (Dm.sAsg (Dm.eC .non) (Dm.gN 3)) (Dm.sSeq (Dm.sFor (Dm.iSeq (Dm.eCall sp_calls_into (Dm.aCons (Dm.eFld "DifferenceTable" (Dm.eVar 0) "system") (Dm.aCons (Dm.eVar 2) (Dm.aNil))))) (Dm.gTup 2 (Dm.gCons (Dm.gN 4) (Dm.gCons (Dm.gTup 5 (Dm.gCons (Dm.gN 5) (Dm.gCons (Dm.gN 6) (Dm.gCons (Dm.gN 7) (Dm.gCons (Dm.gN 8) (Dm.gCons (Dm.gN 9) (Dm.gNil))))))) (Dm.gNil)))) (Dm.sSeq (Dm.sAsg (Dm.eBin Dm.oSub (Dm.eBin Dm.oSub (Dm.eBin Dm.oIx (Dm.eFld "DifferenceTable" (Dm.eVar 0) "greatest") (Dm.eTup (Dm.aCons (Dm.eVar 1) (Dm.aCons (Dm.eVar 5) (Dm.aNil))))) (Dm.eBin Dm.oIx (Dm.eVar 7) (Dm.eC (.int 0)))) (Dm.eVar 8)) (Dm.gN 10)) (Dm.sIf (Dm.tOr (Dm.tE (Dm.eUn Dm.oIsN (Dm.eVar 3))) (Dm.tE (Dm.eBin Dm.oGt (Dm.eVar 10) (Dm.eBin Dm.oIx (Dm.eVar 3) (Dm.eC (.int 0)))))) (Dm.sAsg (Dm.eTup (Dm.aCons (Dm.eVar 10) (Dm.aCons (Dm.eTup (Dm.aCons (Dm.eVar 4) (Dm.aCons (Dm.eC (.int 0)) (Dm.aCons (Dm.eVar 8) (Dm.aNil))))) (Dm.aNil)))) (Dm.gN 3)) (Dm.sNext)))) (Dm.sAsg (Dm.eVar 3) (Dm.gTup 2 (Dm.gCons (Dm.gDst (Dm.eFld "DifferenceTable" (Dm.eVar 0) "greatest") (Dm.eTup (Dm.aCons (Dm.eVar 1) (Dm.aCons (Dm.eVar 2) (Dm.aNil))))) (Dm.gCons (Dm.gDst (Dm.eFld "DifferenceTable" (Dm.eVar 0) "steps") (Dm.eTup (Dm.aCons (Dm.eVar 1) (Dm.aCons (Dm.eVar 2) (Dm.aNil))))) (Dm.gNil))))))
def sp_DifferenceTable_enter_earlier : Dm.Sp := Dm.inl 3 11 t_DifferenceTable_enter_earlier
def t_DifferenceTable___init__ : Dm.TS := Dm.sSeq (Dm.sFld "DifferenceTable" (Dm.eVar 0) "system" (Dm.eVar 1)) (Dm.sSeq (Dm.sFld "DifferenceTable" (Dm.eVar 0) "services" (Dm.eCall sp_reached (Dm.aCons (Dm.eVar 1) (Dm.aNil)))) (Dm.sSeq (Dm.sFld "DifferenceTable" (Dm.eVar 0) "greatest" (Dm.eDnew true)) (Dm.sSeq (Dm.sFld "DifferenceTable" (Dm.eVar 0) "steps" (Dm.eDnew true)) (Dm.sFor (Dm.iSeq (Dm.eFld "DifferenceTable" (Dm.eVar 0) "services")) (Dm.gN 2) (Dm.sSeq (Dm.sAsg (Dm.eC (.int 0)) (Dm.gDst (Dm.eFld "DifferenceTable" (Dm.eVar 0) "greatest") (Dm.eTup (Dm.aCons (Dm.eVar 2) (Dm.aCons (Dm.eVar 2) (Dm.aNil)))))) (Dm.sFor (Dm.iSeq (Dm.eLc (Dm.iSeq (Dm.eFld "DifferenceTable" (Dm.eVar 0) "services")) (Dm.gN 4) (Dm.tE (Dm.eBin Dm.oLt (Dm.eVar 4) (Dm.eVar 2))) (Dm.eVar 4) [4])) (Dm.gN 3) (Dm.sSeq (Dm.sExpr (Dm.eMeth "DifferenceTable" "enter_later" sp_DifferenceTable_enter_later (Dm.eVar 0) (Dm.aCons (Dm.eVar 2) (Dm.aCons (Dm.eVar 3) (Dm.aNil))))) (Dm.sExpr (Dm.eMeth "DifferenceTable" "enter_earlier" sp_DifferenceTable_enter_earlier (Dm.eVar 0) (Dm.aCons (Dm.eVar 3) (Dm.aCons (Dm.eVar 2) (Dm.aNil))))))))))))
def sp_DifferenceTable___init__ : Dm.Sp := Dm.inl 2 5 t_DifferenceTable___init__
def t_least_windows : Dm.TS := Dm.sSeq (Dm.sExpr (Dm.eCall sp_check_system (Dm.aCons (Dm.eVar 0) (Dm.aNil)))) (Dm.sRet (Dm.eCall sp_find_least_windows (Dm.aCons (Dm.eMake "DifferenceTable" sp_DifferenceTable___init__ (Dm.aCons (Dm.eVar 0) (Dm.aNil))) (Dm.aNil))))
def sp_least_windows : Dm.Sp := Dm.inl 1 1 t_least_windows
def t__law_pick : Dm.TS := Dm.sRet (Dm.eBin Dm.oIx (Dm.eVar 1) (Dm.eCall sp__law_next (Dm.aCons (Dm.eVar 0) (Dm.aCons (Dm.eB Dm.bLen (Dm.aCons (Dm.eVar 1) (Dm.aNil))) (Dm.aNil)))))
def sp__law_pick : Dm.Sp := Dm.inl 2 2 t__law_pick
def t_check_reached : Dm.TS := Dm.sIf (Dm.tOr (Dm.tNot (Dm.tE (Dm.eCall sp_is_integer (Dm.aCons (Dm.eVar 1) (Dm.aCons (Dm.eC (.int 0)) (Dm.aCons (Dm.eBin Dm.oSub (Dm.eBin Dm.oIx (Dm.eVar 0) (Dm.eC (.int 0))) (Dm.eC (.int 1))) (Dm.aNil))))))) (Dm.tE (Dm.eBin Dm.oNotIn (Dm.eVar 1) (Dm.eCall sp_reached (Dm.aCons (Dm.eVar 0) (Dm.aNil)))))) (Dm.sNever) (Dm.sNext)
def sp_check_reached : Dm.Sp := Dm.inl 2 2 t_check_reached
def t_difference : Dm.TS := Dm.sSeq (Dm.sExpr (Dm.eCall sp_check_system (Dm.aCons (Dm.eVar 0) (Dm.aNil)))) (Dm.sSeq (Dm.sExpr (Dm.eCall sp_check_reached (Dm.aCons (Dm.eVar 0) (Dm.aCons (Dm.eVar 1) (Dm.aNil))))) (Dm.sSeq (Dm.sExpr (Dm.eCall sp_check_reached (Dm.aCons (Dm.eVar 0) (Dm.aCons (Dm.eVar 2) (Dm.aNil))))) (Dm.sRet (Dm.eBin Dm.oIx (Dm.eFld "DifferenceTable" (Dm.eMake "DifferenceTable" sp_DifferenceTable___init__ (Dm.aCons (Dm.eVar 0) (Dm.aNil))) "greatest") (Dm.eTup (Dm.aCons (Dm.eVar 1) (Dm.aCons (Dm.eVar 2) (Dm.aNil))))))))
def sp_difference : Dm.Sp := Dm.inl 3 3 t_difference
def t_check_windows : Dm.TS := Dm.sSeq (Dm.sIf (Dm.tNot (Dm.tE (Dm.eB Dm.bIsi (Dm.aCons (Dm.eVar 1) (Dm.aCons (Dm.eC (.ty "tuple")) (Dm.aNil)))))) (Dm.sNever) (Dm.sNext)) (Dm.sSeq (Dm.sFor (Dm.iEnum (Dm.eVar 1)) (Dm.gTup 2 (Dm.gCons (Dm.gN 2) (Dm.gCons (Dm.gN 3) (Dm.gNil)))) (Dm.sIf (Dm.tOr (Dm.tE (Dm.eBin Dm.oEq (Dm.eVar 2) (Dm.eBin Dm.oIx (Dm.eVar 0) (Dm.eC (.int 0))))) (Dm.tNot (Dm.tE (Dm.eCall sp_is_integer (Dm.aCons (Dm.eVar 3) (Dm.aCons (Dm.eC (.int 0)) (Dm.aCons (Dm.eC (.int 9999)) (Dm.aNil)))))))) (Dm.sNever) (Dm.sNext))) (Dm.sIf (Dm.tE (Dm.eBin Dm.oLt (Dm.eB Dm.bLen (Dm.aCons (Dm.eVar 1) (Dm.aNil))) (Dm.eBin Dm.oIx (Dm.eVar 0) (Dm.eC (.int 0))))) (Dm.sNever) (Dm.sNext)))
def sp_check_windows : Dm.Sp := Dm.inl 2 4 t_check_windows
def t_latest_forgetting : Dm.TS := Dm.sSeq (Dm.sAsg (Dm.eTup (Dm.aCons (Dm.eMake "DifferenceTable" sp_DifferenceTable___init__ (Dm.aCons (Dm.eVar 0) (Dm.aNil))) (Dm.aCons (Dm.eLstH (Dm.aNil)) (Dm.aNil)))) (Dm.gTup 2 (Dm.gCons (Dm.gN 2) (Dm.gCons (Dm.gN 3) (Dm.gNil))))) (Dm.sSeq (Dm.sFor (Dm.iSeq (Dm.eFld "DifferenceTable" (Dm.eVar 2) "services")) (Dm.gN 4) (Dm.sSeq (Dm.sAsg (Dm.eBin Dm.oAdd (Dm.eBin Dm.oAdd (Dm.eBin Dm.oIx (Dm.eVar 1) (Dm.eVar 4)) (Dm.eBin Dm.oIx (Dm.eFld "DifferenceTable" (Dm.eVar 2) "greatest") (Dm.eTup (Dm.aCons (Dm.eVar 4) (Dm.aCons (Dm.eC (.int 0)) (Dm.aNil)))))) (Dm.eBin Dm.oIx (Dm.eFld "DifferenceTable" (Dm.eVar 2) "greatest") (Dm.eTup (Dm.aCons (Dm.eC (.int 0)) (Dm.aCons (Dm.eVar 4) (Dm.aNil)))))) (Dm.gN 5)) (Dm.sExpr (Dm.eM Dm.tyL Dm.mApp (Dm.eVar 3) (Dm.aCons (Dm.eTup (Dm.aCons (Dm.eVar 5) (Dm.aCons (Dm.eUn Dm.oNeg (Dm.eVar 4)) (Dm.aNil)))) (Dm.aNil)))))) (Dm.sSeq (Dm.sAsg (Dm.eB Dm.bMax1 (Dm.aCons (Dm.eVar 3) (Dm.aNil))) (Dm.gTup 2 (Dm.gCons (Dm.gN 5) (Dm.gCons (Dm.gN 6) (Dm.gNil))))) (Dm.sRet (Dm.eTup (Dm.aCons (Dm.eVar 5) (Dm.aCons (Dm.eUn Dm.oNeg (Dm.eVar 6)) (Dm.aNil)))))))
def sp_latest_forgetting : Dm.Sp := Dm.inl 2 7 t_latest_forgetting
def t_least_reuse_time : Dm.TS := Dm.sSeq (Dm.sExpr (Dm.eCall sp_check_system (Dm.aCons (Dm.eVar 0) (Dm.aNil)))) (Dm.sSeq (Dm.sExpr (Dm.eCall sp_check_windows (Dm.aCons (Dm.eVar 0) (Dm.aCons (Dm.eVar 1) (Dm.aNil))))) (Dm.sRet (Dm.eBin Dm.oAdd (Dm.eBin Dm.oIx (Dm.eCall sp_latest_forgetting (Dm.aCons (Dm.eVar 0) (Dm.aCons (Dm.eVar 1) (Dm.aNil)))) (Dm.eC (.int 0))) (Dm.eC (.int 1)))))
def sp_least_reuse_time : Dm.Sp := Dm.inl 2 2 t_least_reuse_time
def t_first_short_window : Dm.TS := Dm.sSeq (Dm.sExpr (Dm.eCall sp_check_system (Dm.aCons (Dm.eVar 0) (Dm.aNil)))) (Dm.sSeq (Dm.sExpr (Dm.eCall sp_check_windows (Dm.aCons (Dm.eVar 0) (Dm.aCons (Dm.eVar 1) (Dm.aNil))))) (Dm.sSeq (Dm.sFor (Dm.iEnum (Dm.eCall sp_find_least_windows (Dm.aCons (Dm.eMake "DifferenceTable" sp_DifferenceTable___init__ (Dm.aCons (Dm.eVar 0) (Dm.aNil))) (Dm.aNil)))) (Dm.gTup 2 (Dm.gCons (Dm.gN 2) (Dm.gCons (Dm.gN 3) (Dm.gNil)))) (Dm.sIf (Dm.tE (Dm.eBin Dm.oLt (Dm.eBin Dm.oIx (Dm.eVar 1) (Dm.eVar 2)) (Dm.eVar 3))) (Dm.sRet (Dm.eVar 2)) (Dm.sNext))) (Dm.sRet (Dm.eC .non))))
def sp_first_short_window : Dm.Sp := Dm.inl 2 4 t_first_short_window
def t_DifferenceTable_messages_for : Dm.TS := Dm.sSeq (Dm.sAsg (Dm.eLstH (Dm.aNil)) (Dm.gN 3)) (Dm.sSeq (Dm.sWhile (Dm.tE (Dm.eBin Dm.oNe (Dm.eVar 1) (Dm.eVar 2))) (Dm.sSeq (Dm.sAsg (Dm.eBin Dm.oIx (Dm.eFld "DifferenceTable" (Dm.eVar 0) "steps") (Dm.eTup (Dm.aCons (Dm.eVar 1) (Dm.aCons (Dm.eVar 2) (Dm.aNil))))) (Dm.gTup 3 (Dm.gCons (Dm.gN 4) (Dm.gCons (Dm.gN 5) (Dm.gCons (Dm.gN 6) (Dm.gNil)))))) (Dm.sSeq (Dm.sExpr (Dm.eM Dm.tyL Dm.mApp (Dm.eVar 3) (Dm.aCons (Dm.eTup (Dm.aCons (Dm.eVar 4) (Dm.aCons (Dm.eVar 5) (Dm.aCons (Dm.eVar 6) (Dm.aNil))))) (Dm.aNil)))) (Dm.sIf (Dm.tE (Dm.eBin Dm.oGt (Dm.eVar 1) (Dm.eVar 2))) (Dm.sAsg (Dm.eBin Dm.oIx (Dm.eBin Dm.oIx (Dm.eBin Dm.oIx (Dm.eFld "DifferenceTable" (Dm.eVar 0) "system") (Dm.eC (.int 1))) (Dm.eVar 4)) (Dm.eC (.int 0))) (Dm.gN 1)) (Dm.sAsg (Dm.eBin Dm.oIx (Dm.eBin Dm.oIx (Dm.eBin Dm.oIx (Dm.eFld "DifferenceTable" (Dm.eVar 0) "system") (Dm.eC (.int 1))) (Dm.eVar 4)) (Dm.eC (.int 0))) (Dm.gN 2)))))) (Dm.sSeq (Dm.sWhile (Dm.tE (Dm.eBin Dm.oNe (Dm.eVar 1) (Dm.eC (.int 0)))) (Dm.sSeq (Dm.sAsg (Dm.eBin Dm.oIx (Dm.eFld "DifferenceTable" (Dm.eVar 0) "steps") (Dm.eTup (Dm.aCons (Dm.eVar 1) (Dm.aCons (Dm.eC (.int 0)) (Dm.aNil))))) (Dm.gTup 3 (Dm.gCons (Dm.gN 4) (Dm.gCons (Dm.gN 5) (Dm.gCons (Dm.gN 6) (Dm.gNil)))))) (Dm.sSeq (Dm.sExpr (Dm.eM Dm.tyL Dm.mApp (Dm.eVar 3) (Dm.aCons (Dm.eTup (Dm.aCons (Dm.eVar 4) (Dm.aCons (Dm.eVar 5) (Dm.aCons (Dm.eVar 6) (Dm.aNil))))) (Dm.aNil)))) (Dm.sAsg (Dm.eBin Dm.oIx (Dm.eBin Dm.oIx (Dm.eBin Dm.oIx (Dm.eFld "DifferenceTable" (Dm.eVar 0) "system") (Dm.eC (.int 1))) (Dm.eVar 4)) (Dm.eC (.int 0))) (Dm.gN 1))))) (Dm.sRet (Dm.eVar 3))))
def sp_DifferenceTable_messages_for : Dm.Sp := Dm.inl 3 7 t_DifferenceTable_messages_for
def t_schedule_of : Dm.TS := Dm.sRet (Dm.eB Dm.bSorted (Dm.aCons (Dm.eLc (Dm.iSeq (Dm.eVar 0)) (Dm.gTup 3 (Dm.gCons (Dm.gN 1) (Dm.gCons (Dm.gN 2) (Dm.gCons (Dm.gN 3) (Dm.gNil))))) (Dm.tYes) (Dm.eTup (Dm.aCons (Dm.eC (.int 0)) (Dm.aCons (Dm.eC (.int 0)) (Dm.aCons (Dm.eVar 1) (Dm.aCons (Dm.eVar 2) (Dm.aCons (Dm.eVar 3) (Dm.aNil))))))) [1, 2, 3]) (Dm.aNil)))
def sp_schedule_of : Dm.Sp := Dm.inl 1 4 t_schedule_of
def t_double_act : Dm.TS := Dm.sSeq (Dm.sAsg (Dm.eCall sp_first_short_window (Dm.aCons (Dm.eVar 0) (Dm.aCons (Dm.eVar 1) (Dm.aNil)))) (Dm.gN 2)) (Dm.sSeq (Dm.sIf (Dm.tE (Dm.eUn Dm.oIsN (Dm.eVar 2))) (Dm.sRet (Dm.eC .non)) (Dm.sNext)) (Dm.sSeq (Dm.sAsg (Dm.eMake "DifferenceTable" sp_DifferenceTable___init__ (Dm.aCons (Dm.eVar 0) (Dm.aNil))) (Dm.gN 3)) (Dm.sSeq (Dm.sAsg (Dm.eCall sp_widest_pair (Dm.aCons (Dm.eVar 3) (Dm.aCons (Dm.eVar 2) (Dm.aNil)))) (Dm.gTup 3 (Dm.gCons (Dm.gN 4) (Dm.gCons (Dm.gN 5) (Dm.gCons (Dm.gN 6) (Dm.gNil)))))) (Dm.sSeq (Dm.sAsg (Dm.eMeth "DifferenceTable" "messages_for" sp_DifferenceTable_messages_for (Dm.eVar 3) (Dm.aCons (Dm.eBin Dm.oIx (Dm.eBin Dm.oIx (Dm.eBin Dm.oIx (Dm.eVar 0) (Dm.eC (.int 1))) (Dm.eBin Dm.oIx (Dm.eVar 5) (Dm.eC (.int 0)))) (Dm.eC (.int 0))) (Dm.aCons (Dm.eBin Dm.oIx (Dm.eBin Dm.oIx (Dm.eBin Dm.oIx (Dm.eVar 0) (Dm.eC (.int 1))) (Dm.eBin Dm.oIx (Dm.eVar 6) (Dm.eC (.int 0)))) (Dm.eC (.int 0))) (Dm.aNil)))) (Dm.gN 7)) (Dm.sSeq (Dm.sExpr (Dm.eM Dm.tyL Dm.mApp (Dm.eVar 7) (Dm.aCons (Dm.eBin Dm.oAdd (Dm.eVar 5) (Dm.eTup (Dm.aCons (Dm.eBin Dm.oIx (Dm.eBin Dm.oIx (Dm.eBin Dm.oIx (Dm.eVar 0) (Dm.eC (.int 1))) (Dm.eBin Dm.oIx (Dm.eVar 5) (Dm.eC (.int 0)))) (Dm.eC (.int 4))) (Dm.aNil)))) (Dm.aNil)))) (Dm.sSeq (Dm.sExpr (Dm.eM Dm.tyL Dm.mApp (Dm.eVar 7) (Dm.aCons (Dm.eBin Dm.oAdd (Dm.eVar 6) (Dm.eTup (Dm.aCons (Dm.eBin Dm.oIx (Dm.eBin Dm.oIx (Dm.eBin Dm.oIx (Dm.eVar 0) (Dm.eC (.int 1))) (Dm.eBin Dm.oIx (Dm.eVar 6) (Dm.eC (.int 0)))) (Dm.eC (.int 3))) (Dm.aNil)))) (Dm.aNil)))) (Dm.sRet (Dm.eTup (Dm.aCons (Dm.eVar 2) (Dm.aCons (Dm.eCall sp_schedule_of (Dm.aCons (Dm.eVar 7) (Dm.aNil))) (Dm.aNil)))))))))))
def sp_double_act : Dm.Sp := Dm.inl 2 8 t_double_act
def t_all_attempts : Dm.TS := Dm.sRet (Dm.eLc2 (Dm.iEnum (Dm.eBin Dm.oIx (Dm.eVar 0) (Dm.eC (.int 1)))) (Dm.gTup 2 (Dm.gCons (Dm.gN 1) (Dm.gCons (Dm.gN 2) (Dm.gNil)))) Dm.tYes (Dm.eB Dm.bLen (Dm.aCons (Dm.eBin Dm.oIx (Dm.eVar 2) (Dm.eC (.int 2))) (Dm.aNil))) (Dm.gN 3) Dm.tYes (Dm.eTup (Dm.aCons (Dm.eVar 1) (Dm.aCons (Dm.eVar 3) (Dm.aNil)))) [1, 2, 3] [3])
def sp_all_attempts : Dm.Sp := Dm.inl 1 4 t_all_attempts
def t_without_attempts : Dm.TS := Dm.sSeq (Dm.sAsg (Dm.eLstH (Dm.aNil)) (Dm.gN 2)) (Dm.sSeq (Dm.sFor (Dm.iEnum (Dm.eBin Dm.oIx (Dm.eVar 0) (Dm.eC (.int 1)))) (Dm.gTup 2 (Dm.gCons (Dm.gN 3) (Dm.gCons (Dm.gTup 5 (Dm.gCons (Dm.gN 4) (Dm.gCons (Dm.gN 5) (Dm.gCons (Dm.gN 6) (Dm.gCons (Dm.gN 7) (Dm.gCons (Dm.gN 8) (Dm.gNil))))))) (Dm.gNil)))) (Dm.sSeq (Dm.sAsg (Dm.eB Dm.bTuple (Dm.aCons (Dm.eLc (Dm.iEnum (Dm.eVar 6)) (Dm.gTup 2 (Dm.gCons (Dm.gN 10) (Dm.gCons (Dm.gN 11) (Dm.gNil)))) (Dm.tE (Dm.eBin Dm.oNotIn (Dm.eTup (Dm.aCons (Dm.eVar 3) (Dm.aCons (Dm.eVar 10) (Dm.aNil)))) (Dm.eVar 1))) (Dm.eVar 11) [10, 11]) (Dm.aNil))) (Dm.gN 9)) (Dm.sSeq (Dm.sIf (Dm.tE (Dm.eBin Dm.oEq (Dm.eVar 9) (Dm.eTup (Dm.aNil)))) (Dm.sRet (Dm.eC .non)) (Dm.sNext)) (Dm.sExpr (Dm.eM Dm.tyL Dm.mApp (Dm.eVar 2) (Dm.aCons (Dm.eTup (Dm.aCons (Dm.eVar 4) (Dm.aCons (Dm.eVar 5) (Dm.aCons (Dm.eVar 9) (Dm.aCons (Dm.eVar 7) (Dm.aCons (Dm.eVar 8) (Dm.aNil))))))) (Dm.aNil))))))) (Dm.sRet (Dm.eTup (Dm.aCons (Dm.eBin Dm.oIx (Dm.eVar 0) (Dm.eC (.int 0))) (Dm.aCons (Dm.eB Dm.bTuple (Dm.aCons (Dm.eVar 2) (Dm.aNil))) (Dm.aNil))))))
def sp_without_attempts : Dm.Sp := Dm.inl 2 12 t_without_attempts
def t_drop_effects : Dm.TS := Dm.sSeq (Dm.sExpr (Dm.eCall sp_check_system (Dm.aCons (Dm.eVar 0) (Dm.aNil)))) (Dm.sSeq (Dm.sAsg (Dm.eLstH (Dm.aNil)) (Dm.gN 1)) (Dm.sSeq (Dm.sFor (Dm.iSeq (Dm.eCall sp_all_attempts (Dm.aCons (Dm.eVar 0) (Dm.aNil)))) (Dm.gN 2) (Dm.sSeq (Dm.sAsg (Dm.eCall sp_without_attempts (Dm.aCons (Dm.eVar 0) (Dm.aCons (Dm.eLst (Dm.aCons (Dm.eVar 2) (Dm.aNil))) (Dm.aNil)))) (Dm.gN 3)) (Dm.sIf (Dm.tE (Dm.eUn Dm.oIsNotN (Dm.eVar 3))) (Dm.sExpr (Dm.eM Dm.tyL Dm.mApp (Dm.eVar 1) (Dm.aCons (Dm.eTup (Dm.aCons (Dm.eVar 2) (Dm.aCons (Dm.eCall sp_find_least_windows (Dm.aCons (Dm.eMake "DifferenceTable" sp_DifferenceTable___init__ (Dm.aCons (Dm.eVar 3) (Dm.aNil))) (Dm.aNil))) (Dm.aNil)))) (Dm.aNil)))) (Dm.sNext)))) (Dm.sSeq (Dm.sFrz 1) (Dm.sRet (Dm.eVar 1)))))
def sp_drop_effects : Dm.Sp := Dm.inl 1 4 t_drop_effects
def t_law : Dm.TS := Dm.sSeq (Dm.sAsg (Dm.eCall sp__law_dice (Dm.aCons (Dm.eVar 0) (Dm.aNil))) (Dm.gN 1)) (Dm.sSeq (Dm.sFor (Dm.iRng1 (Dm.eC (.int 3))) (Dm.gN 2) (Dm.sSeq (Dm.sAsg (Dm.eCall sp__law_system (Dm.aCons (Dm.eVar 1) (Dm.aCons (Dm.eC (.int 6)) (Dm.aCons (Dm.eC (.int 9)) (Dm.aCons (Dm.eBin Dm.oIx (Dm.eLst (Dm.aCons (Dm.eC (.int 3)) (Dm.aCons (Dm.eC (.int 20)) (Dm.aNil)))) (Dm.eCall sp__law_next (Dm.aCons (Dm.eVar 1) (Dm.aCons (Dm.eC (.int 2)) (Dm.aNil))))) (Dm.aNil)))))) (Dm.gN 3)) (Dm.sSeq (Dm.sAsg (Dm.eVar 3) (Dm.gTup 2 (Dm.gCons (Dm.gN 4) (Dm.gCons (Dm.gN 5) (Dm.gNil))))) (Dm.sIf (Dm.tE (Dm.eBin Dm.oGt (Dm.eVar 4) (Dm.eC (.int 1)))) (Dm.sSeq (Dm.sAsg (Dm.eTup (Dm.aCons (Dm.eVar 4) (Dm.aCons (Dm.eBin Dm.oAdd (Dm.eVar 5) (Dm.eTup (Dm.aCons (Dm.eCall sp__law_call (Dm.aCons (Dm.eVar 1) (Dm.aCons (Dm.eVar 4) (Dm.aCons (Dm.eC (.int 20)) (Dm.aNil))))) (Dm.aNil)))) (Dm.aNil)))) (Dm.gN 6)) (Dm.sSeq (Dm.sAsg (Dm.eCall sp_reachable_services (Dm.aCons (Dm.eVar 3) (Dm.aNil))) (Dm.gN 7)) (Dm.sSeq (Dm.sAsg (Dm.eTup (Dm.aCons (Dm.eCall sp_least_windows (Dm.aCons (Dm.eVar 3) (Dm.aNil))) (Dm.aCons (Dm.eCall sp_least_windows (Dm.aCons (Dm.eVar 6) (Dm.aNil))) (Dm.aNil)))) (Dm.gTup 2 (Dm.gCons (Dm.gN 8) (Dm.gCons (Dm.gN 9) (Dm.gNil))))) (Dm.sSeq (Dm.sIf (Dm.tE (Dm.eBin Dm.oNe (Dm.eLc (Dm.iRng1 (Dm.eVar 4)) (Dm.gN 10) (Dm.tAnd (Dm.tE (Dm.eBin Dm.oIn (Dm.eVar 10) (Dm.eVar 7))) (Dm.tE (Dm.eBin Dm.oLt (Dm.eBin Dm.oIx (Dm.eVar 9) (Dm.eVar 10)) (Dm.eBin Dm.oIx (Dm.eVar 8) (Dm.eVar 10))))) (Dm.eVar 10) [10]) (Dm.eLst (Dm.aNil)))) (Dm.sRet (Dm.eC (.bl false))) (Dm.sNext)) (Dm.sSeq (Dm.sFor (Dm.iSeq (Dm.eVar 7)) (Dm.gN 11) (Dm.sSeq (Dm.sAsg (Dm.eCall sp__law_pick (Dm.aCons (Dm.eVar 1) (Dm.aCons (Dm.eVar 7) (Dm.aNil)))) (Dm.gN 12)) (Dm.sIf (Dm.tE (Dm.eBin Dm.oLt (Dm.eCall sp_difference (Dm.aCons (Dm.eVar 6) (Dm.aCons (Dm.eVar 11) (Dm.aCons (Dm.eVar 12) (Dm.aNil))))) (Dm.eCall sp_difference (Dm.aCons (Dm.eVar 3) (Dm.aCons (Dm.eVar 11) (Dm.aCons (Dm.eVar 12) (Dm.aNil))))))) (Dm.sRet (Dm.eC (.bl false))) (Dm.sNext)))) (Dm.sSeq (Dm.sAsg (Dm.eB Dm.bTuple (Dm.aCons (Dm.eLc (Dm.iRng1 (Dm.eVar 4)) (Dm.gN 10) (Dm.tYes) (Dm.eB Dm.bMax2 (Dm.aCons (Dm.eBin Dm.oIx (Dm.eVar 8) (Dm.eVar 10)) (Dm.aCons (Dm.eBin Dm.oIx (Dm.eVar 9) (Dm.eVar 10)) (Dm.aNil)))) [10]) (Dm.aNil))) (Dm.gN 13)) (Dm.sSeq (Dm.sIf (Dm.tE (Dm.eBin Dm.oLt (Dm.eCall sp_least_reuse_time (Dm.aCons (Dm.eVar 6) (Dm.aCons (Dm.eVar 13) (Dm.aNil)))) (Dm.eCall sp_least_reuse_time (Dm.aCons (Dm.eVar 3) (Dm.aCons (Dm.eVar 13) (Dm.aNil)))))) (Dm.sRet (Dm.eC (.bl false))) (Dm.sNext)) (Dm.sSeq (Dm.sIf (Dm.tOr (Dm.tE (Dm.eUn Dm.oIsNotN (Dm.eCall sp_double_act (Dm.aCons (Dm.eVar 3) (Dm.aCons (Dm.eVar 13) (Dm.aNil)))))) (Dm.tE (Dm.eUn Dm.oIsNotN (Dm.eCall sp_double_act (Dm.aCons (Dm.eVar 6) (Dm.aCons (Dm.eVar 13) (Dm.aNil))))))) (Dm.sRet (Dm.eC (.bl false))) (Dm.sNext)) (Dm.sSeq (Dm.sAsg (Dm.eCall sp__law_next (Dm.aCons (Dm.eVar 1) (Dm.aCons (Dm.eBin Dm.oAdd (Dm.eB Dm.bLen (Dm.aCons (Dm.eVar 5) (Dm.aNil))) (Dm.eC (.int 1))) (Dm.aNil)))) (Dm.gN 10)) (Dm.sSeq (Dm.sAsg (Dm.eBin Dm.oIx (Dm.eBin Dm.oIx (Dm.eVar 6) (Dm.eC (.int 1))) (Dm.eVar 10)) (Dm.gTup 5 (Dm.gCons (Dm.gN 14) (Dm.gCons (Dm.gN 15) (Dm.gCons (Dm.gN 16) (Dm.gCons (Dm.gN 17) (Dm.gCons (Dm.gN 18) (Dm.gNil)))))))) (Dm.sIf (Dm.tE (Dm.eBin Dm.oLt (Dm.eB Dm.bLen (Dm.aCons (Dm.eVar 16) (Dm.aNil))) (Dm.eC (.int 4)))) (Dm.sSeq (Dm.sAsg (Dm.eCall sp__law_next (Dm.aCons (Dm.eVar 1) (Dm.aCons (Dm.eC (.int 100)) (Dm.aNil)))) (Dm.gN 19)) (Dm.sSeq (Dm.sAsg (Dm.eB Dm.bTupleK (Dm.aCons (Dm.eB Dm.bSortedSet (Dm.aCons (Dm.eB Dm.bSet (Dm.aCons (Dm.eBin Dm.oAdd (Dm.eVar 16) (Dm.eTup (Dm.aCons (Dm.eVar 19) (Dm.aNil)))) (Dm.aNil))) (Dm.aNil))) (Dm.aNil))) (Dm.gN 20)) (Dm.sSeq (Dm.sAsg (Dm.eTup (Dm.aCons (Dm.eVar 4) (Dm.aCons (Dm.eBin Dm.oAdd (Dm.eBin Dm.oAdd (Dm.eSl (Dm.eBin Dm.oIx (Dm.eVar 6) (Dm.eC (.int 1))) (none) (some (Dm.eVar 10))) (Dm.eTup (Dm.aCons (Dm.eTup (Dm.aCons (Dm.eVar 14) (Dm.aCons (Dm.eVar 15) (Dm.aCons (Dm.eKt 20) (Dm.aCons (Dm.eVar 17) (Dm.aCons (Dm.eVar 18) (Dm.aNil))))))) (Dm.aNil)))) (Dm.eSl (Dm.eBin Dm.oIx (Dm.eVar 6) (Dm.eC (.int 1))) (some (Dm.eBin Dm.oAdd (Dm.eVar 10) (Dm.eC (.int 1)))) (none))) (Dm.aNil)))) (Dm.gN 21)) (Dm.sSeq (Dm.sIf (Dm.tE (Dm.eBin Dm.oNe (Dm.eLc (Dm.iRng1 (Dm.eVar 4)) (Dm.gN 22) (Dm.tE (Dm.eBin Dm.oLt (Dm.eBin Dm.oIx (Dm.eCall sp_least_windows (Dm.aCons (Dm.eVar 21) (Dm.aNil))) (Dm.eVar 22)) (Dm.eBin Dm.oIx (Dm.eVar 9) (Dm.eVar 22)))) (Dm.eVar 22) [22]) (Dm.eLst (Dm.aNil)))) (Dm.sRet (Dm.eC (.bl false))) (Dm.sNext)) (Dm.sIf (Dm.tAnd (Dm.tE (Dm.eBin Dm.oGt (Dm.eB Dm.bLen (Dm.aCons (Dm.eKt 20) (Dm.aNil))) (Dm.eB Dm.bLen (Dm.aCons (Dm.eVar 16) (Dm.aNil))))) (Dm.tE (Dm.eBin Dm.oNe (Dm.eDictAt (Dm.eCall sp_drop_effects (Dm.aCons (Dm.eVar 21) (Dm.aNil))) (Dm.eTup (Dm.aCons (Dm.eVar 10) (Dm.aCons (Dm.eIdxK 20 (Dm.eVar 19)) (Dm.aNil))))) (Dm.eVar 9)))) (Dm.sRet (Dm.eC (.bl false))) (Dm.sNext)))))) (Dm.sNext)))))))))))) (Dm.sNext))))) (Dm.sRet (Dm.eC (.bl true))))
def sp_law : Dm.Sp := Dm.inl 1 23 t_law
end G
end S_G1_k16
section S_K1_k16

end S_K1_k16
section S_GA_k16
set_option Elab.async false
set_option linter.all false
set_option maxRecDepth 100000
set_option maxHeartbeats 0
namespace HT
open PySem PySem.Spec PyProof.Rows L2 Dr
def top (i : Nat) : Stmt := PySem.Challenge.pw_onceonly_k16_whole_more_attempts_need_mo.main.body.getD i (.Pass ⟨0, 0, 0, 0⟩)
abbrev s__law_dice : Stmt := top 39
def d__law_dice : He.DefD := ⟨("_law_dice", none), "_law_dice", "_law_dice", defArgs s__law_dice, defBody s__law_dice, defScope s__law_dice, [], []⟩
abbrev s__law_next : Stmt := top 40
def d__law_next : He.DefD := ⟨("_law_next", none), "_law_next", "_law_next", defArgs s__law_next, defBody s__law_next, defScope s__law_next, [], []⟩
abbrev s__law_call : Stmt := top 42
def d__law_call : He.DefD := ⟨("_law_call", none), "_law_call", "_law_call", defArgs s__law_call, defBody s__law_call, defScope s__law_call, [], []⟩
abbrev s__law_system : Stmt := top 43
def d__law_system : He.DefD := ⟨("_law_system", none), "_law_system", "_law_system", defArgs s__law_system, defBody s__law_system, defScope s__law_system, [], []⟩
abbrev s_is_integer : Stmt := top 11
def d_is_integer : He.DefD := ⟨("is_integer", none), "is_integer", "is_integer", defArgs s_is_integer, defBody s_is_integer, defScope s_is_integer, [], []⟩
abbrev s_are_offsets : Stmt := top 12
def d_are_offsets : He.DefD := ⟨("are_offsets", none), "are_offsets", "are_offsets", defArgs s_are_offsets, defBody s_are_offsets, defScope s_are_offsets, [], []⟩
abbrev s_is_call : Stmt := top 13
def d_is_call : He.DefD := ⟨("is_call", none), "is_call", "is_call", defArgs s_is_call, defBody s_is_call, defScope s_is_call, [], []⟩
abbrev s_check_system : Stmt := top 14
def d_check_system : He.DefD := ⟨("check_system", none), "check_system", "check_system", defArgs s_check_system, defBody s_check_system, defScope s_check_system, [], []⟩
abbrev s_reached : Stmt := top 16
def d_reached : He.DefD := ⟨("reached", none), "reached", "reached", defArgs s_reached, defBody s_reached, defScope s_reached, [], []⟩
abbrev s_reachable_services : Stmt := top 18
def d_reachable_services : He.DefD := ⟨("reachable_services", none), "reachable_services", "reachable_services", defArgs s_reachable_services, defBody s_reachable_services, defScope s_reachable_services, [], []⟩
abbrev s_calls_into : Stmt := top 19
def d_calls_into : He.DefD := ⟨("calls_into", none), "calls_into", "calls_into", defArgs s_calls_into, defBody s_calls_into, defScope s_calls_into, [], []⟩
abbrev s_message_pairs : Stmt := top 25
def d_message_pairs : He.DefD := ⟨("message_pairs", none), "message_pairs", "message_pairs", defArgs s_message_pairs, defBody s_message_pairs, defScope s_message_pairs, [], []⟩
abbrev s_widest_pair : Stmt := top 26
def d_widest_pair : He.DefD := ⟨("widest_pair", none), "widest_pair", "widest_pair", defArgs s_widest_pair, defBody s_widest_pair, defScope s_widest_pair, [], []⟩
abbrev s_find_least_windows : Stmt := top 27
def d_find_least_windows : He.DefD := ⟨("find_least_windows", none), "find_least_windows", "find_least_windows", defArgs s_find_least_windows, defBody s_find_least_windows, defScope s_find_least_windows, [], []⟩
abbrev s_DifferenceTable_enter_later : Stmt := inClass (top 21) 1
def d_DifferenceTable_enter_later : He.DefD := ⟨("DifferenceTable", some "enter_later"), "enter_later", "DifferenceTable.enter_later", defArgs s_DifferenceTable_enter_later, defBody s_DifferenceTable_enter_later, defScope s_DifferenceTable_enter_later, [], []⟩
abbrev s_DifferenceTable_enter_earlier : Stmt := inClass (top 21) 2
def d_DifferenceTable_enter_earlier : He.DefD := ⟨("DifferenceTable", some "enter_earlier"), "enter_earlier", "DifferenceTable.enter_earlier", defArgs s_DifferenceTable_enter_earlier, defBody s_DifferenceTable_enter_earlier, defScope s_DifferenceTable_enter_earlier, [], []⟩
abbrev s_DifferenceTable___init__ : Stmt := inClass (top 21) 0
def d_DifferenceTable___init__ : He.DefD := ⟨("DifferenceTable", some "__init__"), "__init__", "DifferenceTable.__init__", defArgs s_DifferenceTable___init__, defBody s_DifferenceTable___init__, defScope s_DifferenceTable___init__, [], []⟩
abbrev s_least_windows : Stmt := top 28
def d_least_windows : He.DefD := ⟨("least_windows", none), "least_windows", "least_windows", defArgs s_least_windows, defBody s_least_windows, defScope s_least_windows, [], []⟩
abbrev s__law_pick : Stmt := top 41
def d__law_pick : He.DefD := ⟨("_law_pick", none), "_law_pick", "_law_pick", defArgs s__law_pick, defBody s__law_pick, defScope s__law_pick, [], []⟩
abbrev s_check_reached : Stmt := top 17
def d_check_reached : He.DefD := ⟨("check_reached", none), "check_reached", "check_reached", defArgs s_check_reached, defBody s_check_reached, defScope s_check_reached, [], []⟩
abbrev s_difference : Stmt := top 22
def d_difference : He.DefD := ⟨("difference", none), "difference", "difference", defArgs s_difference, defBody s_difference, defScope s_difference, [], []⟩
abbrev s_check_windows : Stmt := top 15
def d_check_windows : He.DefD := ⟨("check_windows", none), "check_windows", "check_windows", defArgs s_check_windows, defBody s_check_windows, defScope s_check_windows, [], []⟩
abbrev s_latest_forgetting : Stmt := top 36
def d_latest_forgetting : He.DefD := ⟨("latest_forgetting", none), "latest_forgetting", "latest_forgetting", defArgs s_latest_forgetting, defBody s_latest_forgetting, defScope s_latest_forgetting, [], []⟩
abbrev s_least_reuse_time : Stmt := top 37
def d_least_reuse_time : He.DefD := ⟨("least_reuse_time", none), "least_reuse_time", "least_reuse_time", defArgs s_least_reuse_time, defBody s_least_reuse_time, defScope s_least_reuse_time, [], []⟩
abbrev s_first_short_window : Stmt := top 29
def d_first_short_window : He.DefD := ⟨("first_short_window", none), "first_short_window", "first_short_window", defArgs s_first_short_window, defBody s_first_short_window, defScope s_first_short_window, [], []⟩
abbrev s_DifferenceTable_messages_for : Stmt := inClass (top 21) 3
def d_DifferenceTable_messages_for : He.DefD := ⟨("DifferenceTable", some "messages_for"), "messages_for", "DifferenceTable.messages_for", defArgs s_DifferenceTable_messages_for, defBody s_DifferenceTable_messages_for, defScope s_DifferenceTable_messages_for, [], []⟩
abbrev s_schedule_of : Stmt := top 23
def d_schedule_of : He.DefD := ⟨("schedule_of", none), "schedule_of", "schedule_of", defArgs s_schedule_of, defBody s_schedule_of, defScope s_schedule_of, [], []⟩
abbrev s_double_act : Stmt := top 30
def d_double_act : He.DefD := ⟨("double_act", none), "double_act", "double_act", defArgs s_double_act, defBody s_double_act, defScope s_double_act, [], []⟩
abbrev s_all_attempts : Stmt := top 32
def d_all_attempts : He.DefD := ⟨("all_attempts", none), "all_attempts", "all_attempts", defArgs s_all_attempts, defBody s_all_attempts, defScope s_all_attempts, [], []⟩
abbrev s_without_attempts : Stmt := top 33
def d_without_attempts : He.DefD := ⟨("without_attempts", none), "without_attempts", "without_attempts", defArgs s_without_attempts, defBody s_without_attempts, defScope s_without_attempts, [], []⟩
abbrev s_drop_effects : Stmt := top 34
def d_drop_effects : He.DefD := ⟨("drop_effects", none), "drop_effects", "drop_effects", defArgs s_drop_effects, defBody s_drop_effects, defScope s_drop_effects, [], []⟩
abbrev s_law : Stmt := top 44
def d_law : He.DefD := ⟨("law", none), "law", "law", defArgs s_law, defBody s_law, defScope s_law, [], []⟩
def fn : List He.DefD := ([d__law_dice, d__law_next, d__law_call, d__law_system, d_is_integer, d_are_offsets, d_is_call, d_check_system, d_reached, d_reachable_services, d_calls_into, d_message_pairs, d_widest_pair, d_find_least_windows, d_DifferenceTable_enter_later, d_DifferenceTable_enter_earlier, d_DifferenceTable___init__, d_least_windows, d__law_pick, d_check_reached, d_difference, d_check_windows, d_latest_forgetting, d_least_reuse_time, d_first_short_window, d_DifferenceTable_messages_for, d_schedule_of, d_double_act, d_all_attempts, d_without_attempts] : List He.DefD) ++ ([d_drop_effects, d_law] : List He.DefD)
def fa : List He.Fa := ([.glo "_law_dice", .free "range", .glo "_law_system", .glo "_law_next", .glo "_law_call", .glo "reachable_services", .glo "least_windows", .glo "_law_pick", .glo "difference", .free "tuple", .free "max", .glo "least_reuse_time", .glo "double_act", .free "len", .free "sorted", .free "set", .free "dict", .glo "drop_effects", .free "int", .glo "check_system", .glo "reached", .free "isinstance", .glo "is_integer", .int "MAX_SERVICES" (8), .free "enumerate", .int "MAX_CALLS" (20), .glo "is_call", .free "bool", .glo "are_offsets", .int "MAX_TICKS" (99)] : List He.Fa) ++ ([.int "MAX_ATTEMPTS" (4), .free "all", .free "zip", .glo "find_least_windows", .glo "DifferenceTable", .mkr "DifferenceTable", .cls "DifferenceTable", .noat "DifferenceTable" "system", .noat "DifferenceTable" "services", .glo "widest_pair", .glo "message_pairs", .free "min", .glo "calls_into", .noat "DifferenceTable" "greatest", .noat "DifferenceTable" "steps", .meth "DifferenceTable" "enter_later", .meth "DifferenceTable" "enter_earlier", .glo "check_reached", .glo "check_windows", .glo "latest_forgetting", .int "MAX_WINDOW" (9999), .glo "first_short_window", .meth "DifferenceTable" "messages_for", .glo "schedule_of", .glo "all_attempts", .glo "without_attempts", .glo "law"] : List He.Fa)
def xsT : List Str := []
def fx : List (PySem.W.Frag → Bool) := []
abbrev cmK (K : PySem.W.Frag) : CM := Hx.cmT K xsT
def hdlBody (st : Stmt) : List Stmt := match defBody st with
  | .Try _ [.ExceptHandler _ _ b _] _ _ _ :: _ => b
  | _ => []
theorem u1_of {k : Nat} {A : Around} (r : Room k A) : A.units + 1 < cLine := by have := r.un; omega
theorem u30_of {k : Nat} {A : Around} (r : Room k A) : A.units + 30 < cLine := by have := r.un; omega
theorem u65_of {k : Nat} {A : Around} (r : Room k A) : A.units + 65 < cLine := by have := r.un; omega
end HT
end S_GA_k16
section S_GH_k16
set_option Elab.async false
set_option linter.all false
set_option maxRecDepth 100000
set_option maxHeartbeats 0
namespace HT
open PySem PySem.Spec PyProof.Rows L2 Dr
abbrev R : PySem.W.OpenRow := PySem.W.OpenLaw.row PySem.Challenge.rw_onceonly_k16_whole_more_attempts_need_mo
abbrev hk : PySem.W.Hook := Hx.hookX 5 fa fn fx xsT
def ob (s : PySem.W.SharedT) : Hx.AlX := Hx.obsX 5 fa fn fx xsT (HandSHeadRun.getT s)
theorem ob_eq (s : PySem.W.SharedT) : ob s = hk.obs s.abs := Hx.obsX_eq (HandSHeadRun.getT_eq s)
def loose : List Str := (["OnceError", "InvalidSystem", "UnknownService", "InvalidWindows", "MAX_SERVICES", "MAX_CALLS", "MAX_ATTEMPTS", "MAX_TICKS", "MAX_WINDOW", "is_integer", "are_offsets", "is_call", "check_system", "check_windows", "reached", "check_reached", "reachable_services", "calls_into", "DifferenceTable", "difference", "schedule_of", "message_pairs", "widest_pair", "find_least_windows", "least_windows", "first_short_window", "double_act", "all_attempts", "without_attempts", "drop_effects"] : List Str) ++ (["latest_forgetting", "least_reuse_time", "_law_dice", "_law_next", "_law_pick", "_law_call", "_law_system"] : List Str)
theorem run (w : World) : HandSHeadRun.RunEq R (PySem.W.view R.prog [44]) hk ob 9000 loose w := by
  intro os
  kernel_rfl
end HT
end S_GH_k16
section S_G2_k16
set_option Elab.async false
set_option linter.all false
set_option maxRecDepth 100000
set_option maxHeartbeats 0
namespace HT
open PySem PySem.Spec PyProof.Rows L2 Dr
theorem sc__law_dice : FnScope (["_law_script", "_law_mixed", "_law_cell"] : List Str) ["_law_script"] (defScope s__law_dice) := ⟨rfl, rfl, rfl, by decide +kernel, rfl, by decide +kernel, by decide +kernel⟩
theorem ok__law_dice {P : Program} {w : World} {K : PySem.W.Frag} {h base : Heap} {mg : Str → Option Value} (X : K.In h) (Gn : h.Ns mainGlobals mg) (c : Hx.Says fa fn fx K) :
    ∃ fd, FunD K "_law_dice" "_law_dice" (defArgs s__law_dice) (defBody s__law_dice) (defScope s__law_dice) [] [] (He.fAd K ("_law_dice", none)) fd ∧ FnOk P w K mg base CX0 1 (He.fAd K ("_law_dice", none)) fd ["_law_script"] (LSp (gK K P w (cmK K)) G.sp__law_dice) ∧ Binds K fd ["_law_script"] [] := by
  obtain ⟨fd, F⟩ := c.def_ 0 (d := d__law_dice) rfl
  refine ⟨fd, F, dfi (N := ["_law_script", "_law_mixed", "_law_cell"]) F sc__law_dice fun hidn cdv A outer s H E hr => ?_, F.bindsN fun _ _ _ _ _ _ us hl => match us, hl with | [_], _ => rfl⟩
  have nd := sc__law_dice.nd
  have u0 := hr.units0
  have u1 := u1_of hr
  have u30 := u30_of hr
  have u64 := hr.units
  have u65 := u65_of hr
  show PSs _ _ (LS _ acc0 G.t__law_dice)
  exact dss_cons (ds_set (i := 1) nd rfl (by first | exact .inl rfl | exact .inr rfl) (de_int)) (dss_cons (ds_for PassesOwn.never rfl (di_seq (de_var (pv 0))) (dg_name nd rfl (by first | exact .inl rfl | exact .inr rfl) (fun _ _ => trivial)) (dss_one (ds_set (i := 1) nd rfl (by first | exact .inl rfl | exact .inr rfl) (de_bin dop_mod (de_bin dop_add (de_bin dop_add (de_bin dop_mul (de_var (pv 1)) (de_int)) (de_bin dop_mul (de_bin dop_mod (de_Ty (cb_int) (He.free_ok X Gn (c.fact 18 rfl)) (by first | rfl | decide +kernel) (da_cons (de_var (pv 2)) (da_nil))) (de_int)) (de_int))) (de_int)) (de_int))))) (dss_one (ds_ret (de_lstH (da_cons (de_var (pv 0)) (da_cons (de_int) (da_cons (de_bin dop_mul (de_var (pv 1)) (de_Ty (cb_int) (He.free_ok X Gn (c.fact 18 rfl)) (by first | rfl | decide +kernel) (da_cons (de_cmp (dop_gt u0) (de_B (cb_len) (He.free_ok X Gn (c.fact 13 rfl)) (by first | rfl | decide +kernel) (da_cons (de_var (pv 0)) (da_nil))) (de_int) rfl) (da_nil)))) (da_cons (de_int) (da_nil)))))))))
theorem sc__law_next : FnScope (["_law_dice_here", "_law_many", "_law_found", "_law_cell"] : List Str) ["_law_dice_here", "_law_many"] (defScope s__law_next) := ⟨rfl, rfl, rfl, by decide +kernel, rfl, by decide +kernel, by decide +kernel⟩
theorem ok__law_next {P : Program} {w : World} {K : PySem.W.Frag} {h base : Heap} {mg : Str → Option Value} (X : K.In h) (Gn : h.Ns mainGlobals mg) (c : Hx.Says fa fn fx K) :
    ∃ fd, FunD K "_law_next" "_law_next" (defArgs s__law_next) (defBody s__law_next) (defScope s__law_next) [] [] (He.fAd K ("_law_next", none)) fd ∧ FnOk P w K mg base CX0 1 (He.fAd K ("_law_next", none)) fd ["_law_dice_here", "_law_many"] (LSp (gK K P w (cmK K)) G.sp__law_next) ∧ Binds K fd ["_law_dice_here", "_law_many"] [] := by
  obtain ⟨fd, F⟩ := c.def_ 1 (d := d__law_next) rfl
  refine ⟨fd, F, dfi (N := ["_law_dice_here", "_law_many", "_law_found", "_law_cell"]) F sc__law_next fun hidn cdv A outer s H E hr => ?_, F.bindsN fun _ _ _ _ _ _ us hl => match us, hl with | [_, _], _ => rfl⟩
  have nd := sc__law_next.nd
  have u0 := hr.units0
  have u1 := u1_of hr
  have u30 := u30_of hr
  have u64 := hr.units
  have u65 := u65_of hr
  show PSs _ _ (LS _ acc0 G.t__law_next)
  exact dss_cons (ds_if (dt_cmp (dop_gt u0) (de_ix u1 (de_var (pv 0)) (de_int)) (de_int) rfl) (dss_cons (ds_set (i := 2) nd rfl (by first | exact .inl rfl | exact .inr rfl) (de_bin dop_mod (de_Ty (cb_int) (He.free_ok X Gn (c.fact 18 rfl)) (by first | rfl | decide +kernel) (da_cons (de_ix u1 (de_var (pv 0)) (de_int)) (da_nil))) (de_var (pv 1)))) (dss_cons (ds_asg (de_bin dop_fdiv (de_ix u1 (de_var (pv 0)) (de_int)) (de_var (pv 1))) (dg_lst (de_var (pv 0)) (de_int))) (dss_one (ds_ret (de_var (pv 2)))))) (dss_nil)) (dss_cons (ds_asg (de_bin dop_add (de_ix u1 (de_var (pv 0)) (de_int)) (de_int)) (dg_lst (de_var (pv 0)) (de_int))) (dss_cons (ds_if (dt_cmp (dop_le u0) (de_ix u1 (de_var (pv 0)) (de_int)) (de_B (cb_len) (He.free_ok X Gn (c.fact 13 rfl)) (by first | rfl | decide +kernel) (da_cons (de_ix u1 (de_var (pv 0)) (de_int)) (da_nil))) rfl) (dss_cons (ds_set (i := 3) nd rfl (by first | exact .inl rfl | exact .inr rfl) (de_ix u1 (de_ix u1 (de_var (pv 0)) (de_int)) (de_bin dop_sub (de_ix u1 (de_var (pv 0)) (de_int)) (de_int)))) (dss_cons (ds_asg (de_if (dt_cmp (dop_ge u0) (de_var (pv 3)) (de_bin dop_pow (de_int) (de_int)) rfl) (de_bin dop_fdiv (de_var (pv 3)) (de_var (pv 1))) (de_int)) (dg_lst (de_var (pv 0)) (de_int))) (dss_one (ds_ret (de_bin dop_mod (de_Ty (cb_int) (He.free_ok X Gn (c.fact 18 rfl)) (by first | rfl | decide +kernel) (da_cons (de_var (pv 3)) (da_nil))) (de_var (pv 1))))))) (dss_nil)) (dss_cons (ds_asg (de_bin dop_mod (de_Ty (cb_int) (He.free_ok X Gn (c.fact 18 rfl)) (by first | rfl | decide +kernel) (da_cons (de_bin dop_mul (de_ix u1 (de_var (pv 0)) (de_int)) (de_int)) (da_nil))) (de_int)) (dg_lst (de_var (pv 0)) (de_int))) (dss_one (ds_ret (de_bin dop_mod (de_bin dop_fdiv (de_ix u1 (de_var (pv 0)) (de_int)) (de_int)) (de_var (pv 1))))))))
theorem sc__law_call : FnScope (["_law_d", "_law_count", "_law_most", "_law_caller", "_law_target", "_law_offsets", "_law_k", "_law_least"] : List Str) ["_law_d", "_law_count", "_law_most"] (defScope s__law_call) := ⟨rfl, rfl, rfl, by decide +kernel, rfl, by decide +kernel, by decide +kernel⟩
theorem ok__law_call {P : Program} {w : World} {K : PySem.W.Frag} {h base : Heap} {mg : Str → Option Value} (X : K.In h) (Gn : h.Ns mainGlobals mg) (c : Hx.Says fa fn fx K) :
    ∃ fd, FunD K "_law_call" "_law_call" (defArgs s__law_call) (defBody s__law_call) (defScope s__law_call) [] [] (He.fAd K ("_law_call", none)) fd ∧ FnOk P w K mg base CX0 2 (He.fAd K ("_law_call", none)) fd ["_law_d", "_law_count", "_law_most"] (LSp (gK K P w (cmK K)) G.sp__law_call) ∧ Binds K fd ["_law_d", "_law_count", "_law_most"] [] := by
  obtain ⟨fd, F⟩ := c.def_ 2 (d := d__law_call) rfl
  obtain ⟨fd__law_next, D__law_next, F__law_next, b__law_next⟩ := ok__law_next (P := P) (w := w) (base := base) X Gn c
  have k__law_next := D__law_next.kp
  refine ⟨fd, F, dfi (N := ["_law_d", "_law_count", "_law_most", "_law_caller", "_law_target", "_law_offsets", "_law_k", "_law_least"]) F sc__law_call fun hidn cdv A outer s H E hr => ?_, F.bindsN fun _ _ _ _ _ _ us hl => match us, hl with | [_, _, _], _ => rfl⟩
  have nd := sc__law_call.nd
  have u0 := hr.units0
  have u1 := u1_of hr
  have u30 := u30_of hr
  have u64 := hr.units
  have u65 := u65_of hr
  show PSs _ _ (LS _ acc0 G.t__law_call)
  exact dss_cons (ds_set (i := 3) nd rfl (by first | exact .inl rfl | exact .inr rfl) (de_call F__law_next (hr.mono (by first | decide | exact Nat.le_refl _)) (He.glo_ok X Gn (c.fact 3 rfl)) k__law_next b__law_next pass0 callAc0 (da_cons (de_var (pv 0)) (da_cons (de_bin dop_sub (de_var (pv 1)) (de_int)) (da_nil))))) (dss_cons (ds_set (i := 4) nd rfl (by first | exact .inl rfl | exact .inr rfl) (de_bin dop_add (de_bin dop_add (de_var (pv 3)) (de_int)) (de_call F__law_next (hr.mono (by first | decide | exact Nat.le_refl _)) (He.glo_ok X Gn (c.fact 3 rfl)) k__law_next b__law_next pass0 callAc0 (da_cons (de_var (pv 0)) (da_cons (de_bin dop_sub (de_bin dop_sub (de_var (pv 1)) (de_int)) (de_var (pv 3))) (da_nil)))))) (dss_cons (ds_set (i := 5) nd rfl (by first | exact .inl rfl | exact .inr rfl) (de_B (cb_sortedSet rfl) (He.free_ok X Gn (c.fact 14 rfl)) (by first | rfl | decide +kernel) (da_cons (de_Ty (cb_set rfl) (He.free_ok X Gn (c.fact 15 rfl)) (by first | rfl | decide +kernel) (da_cons (de_lc (own := [("_law_k", 6)]) rfl nd (di_rng1 (He.free_ok X Gn (c.fact 1 rfl)) (de_bin dop_add (de_int) (de_call F__law_next (hr.mono (by first | decide | exact Nat.le_refl _)) (He.glo_ok X Gn (c.fact 3 rfl)) k__law_next b__law_next pass0 callAc0 (da_cons (de_var (pv 0)) (da_cons (de_int) (da_nil)))))) (blk_ok (by rfl)) (fun z s H C cl fp => dg_name nd rfl (by first | exact .inl rfl | exact .inr rfl) (fun σ v => wipe_mem (by decide) σ (some v))) (fun z s H C cl fp => dts_nil) (fun z s H C cl fp => de_call F__law_next (hr.mono (by first | decide | exact Nat.le_refl _)) (He.glo_ok X Gn (c.fact 3 rfl)) k__law_next b__law_next pass0 callAc0 (da_cons (de_var (pv 0)) (da_cons (de_bin dop_add (de_var (pv 2)) (de_int)) (da_nil))))) (da_nil))) (da_nil)))) (dss_cons (ds_set (i := 7) nd rfl (by first | exact .inl rfl | exact .inr rfl) (de_call F__law_next (hr.mono (by first | decide | exact Nat.le_refl _)) (He.glo_ok X Gn (c.fact 3 rfl)) k__law_next b__law_next pass0 callAc0 (da_cons (de_var (pv 0)) (da_cons (de_bin dop_add (de_var (pv 2)) (de_int)) (da_nil))))) (dss_one (ds_ret (de_tup (da_cons (de_var (pv 3)) (da_cons (de_var (pv 4)) (da_cons (de_Ty (cb_tuple) (He.free_ok X Gn (c.fact 9 rfl)) (by first | rfl | decide +kernel) (da_cons (de_var (pv 5)) (da_nil))) (da_cons (de_var (pv 7)) (da_cons (de_bin dop_add (de_var (pv 7)) (de_call F__law_next (hr.mono (by first | decide | exact Nat.le_refl _)) (He.glo_ok X Gn (c.fact 3 rfl)) k__law_next b__law_next pass0 callAc0 (da_cons (de_var (pv 0)) (da_cons (de_bin dop_sub (de_bin dop_add (de_var (pv 2)) (de_int)) (de_var (pv 7))) (da_nil))))) (da_nil))))))))))))
theorem sc__law_system : FnScope (["_law_d", "_law_services", "_law_calls", "_law_most", "_law_count", "_law_found", "_law_k"] : List Str) ["_law_d", "_law_services", "_law_calls", "_law_most"] (defScope s__law_system) := ⟨rfl, rfl, rfl, by decide +kernel, rfl, by decide +kernel, by decide +kernel⟩
theorem ok__law_system {P : Program} {w : World} {K : PySem.W.Frag} {h base : Heap} {mg : Str → Option Value} (X : K.In h) (Gn : h.Ns mainGlobals mg) (c : Hx.Says fa fn fx K) :
    ∃ fd, FunD K "_law_system" "_law_system" (defArgs s__law_system) (defBody s__law_system) (defScope s__law_system) [] [] (He.fAd K ("_law_system", none)) fd ∧ FnOk P w K mg base CX0 3 (He.fAd K ("_law_system", none)) fd ["_law_d", "_law_services", "_law_calls", "_law_most"] (LSp (gK K P w (cmK K)) G.sp__law_system) ∧ Binds K fd ["_law_d", "_law_services", "_law_calls", "_law_most"] [] := by
  obtain ⟨fd, F⟩ := c.def_ 3 (d := d__law_system) rfl
  obtain ⟨fd__law_next, D__law_next, F__law_next, b__law_next⟩ := ok__law_next (P := P) (w := w) (base := base) X Gn c
  have k__law_next := D__law_next.kp
  obtain ⟨fd__law_call, D__law_call, F__law_call, b__law_call⟩ := ok__law_call (P := P) (w := w) (base := base) X Gn c
  have k__law_call := D__law_call.kp
  refine ⟨fd, F, dfi (N := ["_law_d", "_law_services", "_law_calls", "_law_most", "_law_count", "_law_found", "_law_k"]) F sc__law_system fun hidn cdv A outer s H E hr => ?_, F.bindsN fun _ _ _ _ _ _ us hl => match us, hl with | [_, _, _, _], _ => rfl⟩
  have nd := sc__law_system.nd
  have u0 := hr.units0
  have u1 := u1_of hr
  have u30 := u30_of hr
  have u64 := hr.units
  have u65 := u65_of hr
  show PSs _ _ (LS _ acc0 G.t__law_system)
  exact dss_cons (ds_par (i := 4) (j := 5) rfl nd rfl rfl (by decide) rfl rfl (de_bin dop_add (de_int) (de_call F__law_next (hr.mono (by first | decide | exact Nat.le_refl _)) (He.glo_ok X Gn (c.fact 3 rfl)) k__law_next b__law_next pass0 callAc0 (da_cons (de_var (pv 0)) (da_cons (de_var (pv 1)) (da_nil))))) (de_lstH (da_nil)) rfl) (dss_cons (ds_for PassesOwn.never rfl (di_rng1 (He.free_ok X Gn (c.fact 1 rfl)) (de_if (dt_cmp (dop_gt u0) (de_var (pv 4)) (de_int) rfl) (de_call F__law_next (hr.mono (by first | decide | exact Nat.le_refl _)) (He.glo_ok X Gn (c.fact 3 rfl)) k__law_next b__law_next pass0 callAc0 (da_cons (de_var (pv 0)) (da_cons (de_bin dop_add (de_var (pv 2)) (de_int)) (da_nil)))) (de_int))) (dg_name nd rfl (by first | exact .inl rfl | exact .inr rfl) (fun _ _ => trivial)) (dss_one (ds_expr (de_app (de_var (pv 5)) (da_cons (de_call F__law_call (hr.mono (by first | decide | exact Nat.le_refl _)) (He.glo_ok X Gn (c.fact 4 rfl)) k__law_call b__law_call pass0 callAc0 (da_cons (de_var (pv 0)) (da_cons (de_var (pv 4)) (da_cons (de_var (pv 3)) (da_nil))))) (da_nil)))))) (dss_one (ds_ret (de_tup (da_cons (de_var (pv 4)) (da_cons (de_Ty (cb_tuple) (He.free_ok X Gn (c.fact 9 rfl)) (by first | rfl | decide +kernel) (da_cons (de_var (pv 5)) (da_nil))) (da_nil)))))))
theorem sc_is_integer : FnScope (["value", "low", "high"] : List Str) ["value", "low", "high"] (defScope s_is_integer) := ⟨rfl, rfl, rfl, by decide +kernel, rfl, by decide +kernel, by decide +kernel⟩
theorem ok_is_integer {P : Program} {w : World} {K : PySem.W.Frag} {h base : Heap} {mg : Str → Option Value} (X : K.In h) (Gn : h.Ns mainGlobals mg) (c : Hx.Says fa fn fx K) :
    ∃ fd, FunD K "is_integer" "is_integer" (defArgs s_is_integer) (defBody s_is_integer) (defScope s_is_integer) [] [] (He.fAd K ("is_integer", none)) fd ∧ FnOk P w K mg base CX0 1 (He.fAd K ("is_integer", none)) fd ["value", "low", "high"] (LSp (gK K P w (cmK K)) G.sp_is_integer) ∧ Binds K fd ["value", "low", "high"] [] := by
  obtain ⟨fd, F⟩ := c.def_ 4 (d := d_is_integer) rfl
  refine ⟨fd, F, dfi (N := ["value", "low", "high"]) F sc_is_integer fun hidn cdv A outer s H E hr => ?_, F.bindsN fun _ _ _ _ _ _ us hl => match us, hl with | [_, _, _], _ => rfl⟩
  have nd := sc_is_integer.nd
  have u0 := hr.units0
  have u1 := u1_of hr
  have u30 := u30_of hr
  have u64 := hr.units
  have u65 := u65_of hr
  show PSs _ _ (LS _ acc0 G.t_is_integer)
  exact dss_one (ds_ret (de_and (de_B (cb_isi) (He.free_ok X Gn (c.fact 21 rfl)) (by first | rfl | decide +kernel) (da_cons (de_var (pv 0)) (da_cons (de_bty (He.free_ok X Gn (c.fact 18 rfl)) (by first | rfl | decide +kernel)) (da_nil)))) (de_and (de_not (de_B (cb_isi) (He.free_ok X Gn (c.fact 21 rfl)) (by first | rfl | decide +kernel) (da_cons (de_var (pv 0)) (da_cons (de_bty (He.free_ok X Gn (c.fact 27 rfl)) (by first | rfl | decide +kernel)) (da_nil))))) (pe_one (de_chain (dop_le u0) (dop_le u0) (de_var (pv 1)) (de_var (pv 0)) (de_var (pv 2)) rfl)))))
theorem sc_are_offsets : FnScope (["value", "offset", "earlier", "later"] : List Str) ["value"] (defScope s_are_offsets) := ⟨rfl, rfl, rfl, by decide +kernel, rfl, by decide +kernel, by decide +kernel⟩
theorem ok_are_offsets {P : Program} {w : World} {K : PySem.W.Frag} {h base : Heap} {mg : Str → Option Value} (X : K.In h) (Gn : h.Ns mainGlobals mg) (c : Hx.Says fa fn fx K) :
    ∃ fd, FunD K "are_offsets" "are_offsets" (defArgs s_are_offsets) (defBody s_are_offsets) (defScope s_are_offsets) [] [] (He.fAd K ("are_offsets", none)) fd ∧ FnOk P w K mg base CX0 2 (He.fAd K ("are_offsets", none)) fd ["value"] (LSp (gK K P w (cmK K)) G.sp_are_offsets) ∧ Binds K fd ["value"] [] := by
  obtain ⟨fd, F⟩ := c.def_ 5 (d := d_are_offsets) rfl
  obtain ⟨fd_is_integer, D_is_integer, F_is_integer, b_is_integer⟩ := ok_is_integer (P := P) (w := w) (base := base) X Gn c
  have k_is_integer := D_is_integer.kp
  refine ⟨fd, F, dfi (N := ["value", "offset", "earlier", "later"]) F sc_are_offsets fun hidn cdv A outer s H E hr => ?_, F.bindsN fun _ _ _ _ _ _ us hl => match us, hl with | [_], _ => rfl⟩
  have nd := sc_are_offsets.nd
  have u0 := hr.units0
  have u1 := u1_of hr
  have u30 := u30_of hr
  have u64 := hr.units
  have u65 := u65_of hr
  show PSs _ _ (LS _ acc0 G.t_are_offsets)
  exact dss_cons (ds_if (PW.pt (dw_or (dt_not (dt_val (de_B (cb_isi) (He.free_ok X Gn (c.fact 21 rfl)) (by first | rfl | decide +kernel) (da_cons (de_var (pv 0)) (da_cons (de_bty (He.free_ok X Gn (c.fact 9 rfl)) (by first | rfl | decide +kernel)) (da_nil)))))) (pw_or1 (dt_not (dt_chain (dop_le u0) (dop_le u0) (de_int) (de_B (cb_len) (He.free_ok X Gn (c.fact 13 rfl)) (by first | rfl | decide +kernel) (da_cons (de_var (pv 0)) (da_nil))) (de_gint (He.int_ok X Gn (c.fact 30 rfl))) rfl))))) (dss_one (ds_ret (de_bl))) (dss_nil)) (dss_cons (ds_if (dt_not (dt_val (de_B (cb_all rfl) (He.free_ok X Gn (c.fact 31 rfl)) (by first | rfl | decide +kernel) (da_cons (de_lc (own := [("offset", 1)]) rfl nd (di_seq (de_var (pv 0))) (blk_ok (by rfl)) (fun z s H C cl fp => dg_name nd rfl (by first | exact .inl rfl | exact .inr rfl) (fun σ v => wipe_mem (by decide) σ (some v))) (fun z s H C cl fp => dts_nil) (fun z s H C cl fp => de_call F_is_integer (hr.mono (by first | decide | exact Nat.le_refl _)) (He.glo_ok X Gn (c.fact 22 rfl)) k_is_integer b_is_integer pass0 callAc0 (da_cons (de_var (pv 1)) (da_cons (de_int) (da_cons (de_gint (He.int_ok X Gn (c.fact 29 rfl))) (da_nil)))))) (da_nil))))) (dss_one (ds_ret (de_bl))) (dss_nil)) (dss_one (ds_ret (de_B (cb_all rfl) (He.free_ok X Gn (c.fact 31 rfl)) (by first | rfl | decide +kernel) (da_cons (de_lc (own := [("earlier", 2), ("later", 3)]) rfl nd (di_zip (He.free_ok X Gn (c.fact 32 rfl)) (de_var (pv 0)) (de_sl (de_var (pv 0)) (.some (de_int)) (.none))) (blk_ok (by rfl)) (fun z s H C cl fp => dg_tup rfl (dgs_cons (dg_name nd rfl (by first | exact .inl rfl | exact .inr rfl) (fun σ v => wipe_mem (by decide) σ (some v))) (dgs_cons (dg_name nd rfl (by first | exact .inl rfl | exact .inr rfl) (fun σ v => wipe_mem (by decide) σ (some v))) (dgs_nil)))) (fun z s H C cl fp => dts_nil) (fun z s H C cl fp => de_cmp (dop_lt u0) (de_var (pv 2)) (de_var (pv 3)) rfl)) (da_nil))))))
theorem sc_is_call : FnScope (["count", "call", "caller", "target", "offsets", "least", "most"] : List Str) ["count", "call"] (defScope s_is_call) := ⟨rfl, rfl, rfl, by decide +kernel, rfl, by decide +kernel, by decide +kernel⟩
theorem ok_is_call {P : Program} {w : World} {K : PySem.W.Frag} {h base : Heap} {mg : Str → Option Value} (X : K.In h) (Gn : h.Ns mainGlobals mg) (c : Hx.Says fa fn fx K) :
    ∃ fd, FunD K "is_call" "is_call" (defArgs s_is_call) (defBody s_is_call) (defScope s_is_call) [] [] (He.fAd K ("is_call", none)) fd ∧ FnOk P w K mg base CX0 3 (He.fAd K ("is_call", none)) fd ["count", "call"] (LSp (gK K P w (cmK K)) G.sp_is_call) ∧ Binds K fd ["count", "call"] [] := by
  obtain ⟨fd, F⟩ := c.def_ 6 (d := d_is_call) rfl
  obtain ⟨fd_is_integer, D_is_integer, F_is_integer, b_is_integer⟩ := ok_is_integer (P := P) (w := w) (base := base) X Gn c
  have k_is_integer := D_is_integer.kp
  obtain ⟨fd_are_offsets, D_are_offsets, F_are_offsets, b_are_offsets⟩ := ok_are_offsets (P := P) (w := w) (base := base) X Gn c
  have k_are_offsets := D_are_offsets.kp
  refine ⟨fd, F, dfi (N := ["count", "call", "caller", "target", "offsets", "least", "most"]) F sc_is_call fun hidn cdv A outer s H E hr => ?_, F.bindsN fun _ _ _ _ _ _ us hl => match us, hl with | [_, _], _ => rfl⟩
  have nd := sc_is_call.nd
  have u0 := hr.units0
  have u1 := u1_of hr
  have u30 := u30_of hr
  have u64 := hr.units
  have u65 := u65_of hr
  show PSs _ _ (LS _ acc0 G.t_is_call)
  exact dss_cons (ds_if (PW.pt (dw_or (dt_not (dt_val (de_B (cb_isi) (He.free_ok X Gn (c.fact 21 rfl)) (by first | rfl | decide +kernel) (da_cons (de_var (pv 1)) (da_cons (de_bty (He.free_ok X Gn (c.fact 9 rfl)) (by first | rfl | decide +kernel)) (da_nil)))))) (pw_or1 (dt_cmp (dop_ne u64) (de_B (cb_len) (He.free_ok X Gn (c.fact 13 rfl)) (by first | rfl | decide +kernel) (da_cons (de_var (pv 1)) (da_nil))) (de_int) rfl)))) (dss_one (ds_ret (de_bl))) (dss_nil)) (dss_cons (ds_asg (de_var (pv 1)) (dg_tup rfl (dgs_cons (dg_name nd rfl (by first | exact .inl rfl | exact .inr rfl) (fun _ _ => trivial)) (dgs_cons (dg_name nd rfl (by first | exact .inl rfl | exact .inr rfl) (fun _ _ => trivial)) (dgs_cons (dg_name nd rfl (by first | exact .inl rfl | exact .inr rfl) (fun _ _ => trivial)) (dgs_cons (dg_name nd rfl (by first | exact .inl rfl | exact .inr rfl) (fun _ _ => trivial)) (dgs_cons (dg_name nd rfl (by first | exact .inl rfl | exact .inr rfl) (fun _ _ => trivial)) (dgs_nil)))))))) (dss_cons (ds_if (PW.pt (dw_or (dt_not (dt_val (de_call F_is_integer (hr.mono (by first | decide | exact Nat.le_refl _)) (He.glo_ok X Gn (c.fact 22 rfl)) k_is_integer b_is_integer pass0 callAc0 (da_cons (de_var (pv 2)) (da_cons (de_int) (da_cons (de_bin dop_sub (de_var (pv 0)) (de_int)) (da_nil))))))) (pw_or1 (dt_not (dt_val (de_call F_is_integer (hr.mono (by first | decide | exact Nat.le_refl _)) (He.glo_ok X Gn (c.fact 22 rfl)) k_is_integer b_is_integer pass0 callAc0 (da_cons (de_var (pv 3)) (da_cons (de_bin dop_add (de_var (pv 2)) (de_int)) (da_cons (de_bin dop_sub (de_var (pv 0)) (de_int)) (da_nil)))))))))) (dss_one (ds_ret (de_bl))) (dss_nil)) (dss_one (ds_ret (de_and (de_call F_are_offsets (hr.mono (by first | decide | exact Nat.le_refl _)) (He.glo_ok X Gn (c.fact 28 rfl)) k_are_offsets b_are_offsets pass0 callAc0 (da_cons (de_var (pv 4)) (da_nil))) (de_and (de_call F_is_integer (hr.mono (by first | decide | exact Nat.le_refl _)) (He.glo_ok X Gn (c.fact 22 rfl)) k_is_integer b_is_integer pass0 callAc0 (da_cons (de_var (pv 5)) (da_cons (de_int) (da_cons (de_gint (He.int_ok X Gn (c.fact 29 rfl))) (da_nil))))) (pe_one (de_call F_is_integer (hr.mono (by first | decide | exact Nat.le_refl _)) (He.glo_ok X Gn (c.fact 22 rfl)) k_is_integer b_is_integer pass0 callAc0 (da_cons (de_var (pv 6)) (da_cons (de_var (pv 5)) (da_cons (de_gint (He.int_ok X Gn (c.fact 29 rfl))) (da_nil))))))))))))
theorem sc_check_system : FnScope (["system", "count", "calls", "index", "call"] : List Str) ["system"] (defScope s_check_system) := ⟨rfl, rfl, rfl, by decide +kernel, rfl, by decide +kernel, by decide +kernel⟩
theorem ok_check_system {P : Program} {w : World} {K : PySem.W.Frag} {h base : Heap} {mg : Str → Option Value} (X : K.In h) (Gn : h.Ns mainGlobals mg) (c : Hx.Says fa fn fx K) :
    ∃ fd, FunD K "check_system" "check_system" (defArgs s_check_system) (defBody s_check_system) (defScope s_check_system) [] [] (He.fAd K ("check_system", none)) fd ∧ FnOk P w K mg base CX0 4 (He.fAd K ("check_system", none)) fd ["system"] (LSp (gK K P w (cmK K)) G.sp_check_system) ∧ Binds K fd ["system"] [] := by
  obtain ⟨fd, F⟩ := c.def_ 7 (d := d_check_system) rfl
  obtain ⟨fd_is_integer, D_is_integer, F_is_integer, b_is_integer⟩ := ok_is_integer (P := P) (w := w) (base := base) X Gn c
  have k_is_integer := D_is_integer.kp
  obtain ⟨fd_is_call, D_is_call, F_is_call, b_is_call⟩ := ok_is_call (P := P) (w := w) (base := base) X Gn c
  have k_is_call := D_is_call.kp
  refine ⟨fd, F, dfi (N := ["system", "count", "calls", "index", "call"]) F sc_check_system fun hidn cdv A outer s H E hr => ?_, F.bindsN fun _ _ _ _ _ _ us hl => match us, hl with | [_], _ => rfl⟩
  have nd := sc_check_system.nd
  have u0 := hr.units0
  have u1 := u1_of hr
  have u30 := u30_of hr
  have u64 := hr.units
  have u65 := u65_of hr
  show PSs _ _ (LS _ acc0 G.t_check_system)
  exact dss_cons (ds_if (PW.pt (dw_or (dt_not (dt_val (de_B (cb_isi) (He.free_ok X Gn (c.fact 21 rfl)) (by first | rfl | decide +kernel) (da_cons (de_var (pv 0)) (da_cons (de_bty (He.free_ok X Gn (c.fact 9 rfl)) (by first | rfl | decide +kernel)) (da_nil)))))) (pw_or1 (dt_cmp (dop_ne u64) (de_B (cb_len) (He.free_ok X Gn (c.fact 13 rfl)) (by first | rfl | decide +kernel) (da_cons (de_var (pv 0)) (da_nil))) (de_int) rfl)))) (dss_one (ds_never (fun _ _ _ h => h.elim))) (dss_nil)) (dss_cons (ds_asg (de_var (pv 0)) (dg_tup rfl (dgs_cons (dg_name nd rfl (by first | exact .inl rfl | exact .inr rfl) (fun _ _ => trivial)) (dgs_cons (dg_name nd rfl (by first | exact .inl rfl | exact .inr rfl) (fun _ _ => trivial)) (dgs_nil))))) (dss_cons (ds_if (dt_not (dt_val (de_call F_is_integer (hr.mono (by first | decide | exact Nat.le_refl _)) (He.glo_ok X Gn (c.fact 22 rfl)) k_is_integer b_is_integer pass0 callAc0 (da_cons (de_var (pv 1)) (da_cons (de_int) (da_cons (de_gint (He.int_ok X Gn (c.fact 23 rfl))) (da_nil))))))) (dss_one (ds_never (fun _ _ _ h => h.elim))) (dss_nil)) (dss_cons (ds_if (dt_not (dt_val (de_B (cb_isi) (He.free_ok X Gn (c.fact 21 rfl)) (by first | rfl | decide +kernel) (da_cons (de_var (pv 2)) (da_cons (de_bty (He.free_ok X Gn (c.fact 9 rfl)) (by first | rfl | decide +kernel)) (da_nil)))))) (dss_one (ds_never (fun _ _ _ h => h.elim))) (dss_nil)) (dss_one (ds_for PassesOwn.never rfl (di_enum (He.free_ok X Gn (c.fact 24 rfl)) (de_var (pv 2))) (dg_tup rfl (dgs_cons (dg_name nd rfl (by first | exact .inl rfl | exact .inr rfl) (fun _ _ => trivial)) (dgs_cons (dg_name nd rfl (by first | exact .inl rfl | exact .inr rfl) (fun _ _ => trivial)) (dgs_nil)))) (dss_one (ds_if (PW.pt (dw_or (dt_cmp (dop_eq u64) (de_var (pv 3)) (de_gint (He.int_ok X Gn (c.fact 25 rfl))) rfl) (pw_or1 (dt_not (dt_val (de_call F_is_call (hr.mono (by first | decide | exact Nat.le_refl _)) (He.glo_ok X Gn (c.fact 26 rfl)) k_is_call b_is_call pass0 callAc0 (da_cons (de_var (pv 1)) (da_cons (de_var (pv 4)) (da_nil))))))))) (dss_one (ds_never (fun _ _ _ h => h.elim))) (dss_nil))))))))
theorem sc_reached : FnScope (["system", "found", "caller", "target", "offsets", "least", "most"] : List Str) ["system"] (defScope s_reached) := ⟨rfl, rfl, rfl, by decide +kernel, rfl, by decide +kernel, by decide +kernel⟩
theorem ok_reached {P : Program} {w : World} {K : PySem.W.Frag} {h base : Heap} {mg : Str → Option Value} (X : K.In h) (Gn : h.Ns mainGlobals mg) (c : Hx.Says fa fn fx K) :
    ∃ fd, FunD K "reached" "reached" (defArgs s_reached) (defBody s_reached) (defScope s_reached) [] [] (He.fAd K ("reached", none)) fd ∧ FnOk P w K mg base CX0 1 (He.fAd K ("reached", none)) fd ["system"] (LSp (gK K P w (cmK K)) G.sp_reached) ∧ Binds K fd ["system"] [] := by
  obtain ⟨fd, F⟩ := c.def_ 8 (d := d_reached) rfl
  refine ⟨fd, F, dfi (N := ["system", "found", "caller", "target", "offsets", "least", "most"]) F sc_reached fun hidn cdv A outer s H E hr => ?_, F.bindsN fun _ _ _ _ _ _ us hl => match us, hl with | [_], _ => rfl⟩
  have nd := sc_reached.nd
  have u0 := hr.units0
  have u1 := u1_of hr
  have u30 := u30_of hr
  have u64 := hr.units
  have u65 := u65_of hr
  show PSs _ _ (LS _ acc0 G.t_reached)
  exact dss_cons (ds_set (i := 1) nd rfl (by first | exact .inl rfl | exact .inr rfl) (de_dlit1 pe_int pe_bl (fun _ _ => xB))) (dss_cons (ds_for PassesOwn.never rfl (di_seq (de_B (cb_sorted u30) (He.free_ok X Gn (c.fact 14 rfl)) (by first | rfl | decide +kernel) (da_cons (de_ix u1 (de_var (pv 0)) (de_int)) (da_nil)))) (dg_tup rfl (dgs_cons (dg_name nd rfl (by first | exact .inl rfl | exact .inr rfl) (fun _ _ => trivial)) (dgs_cons (dg_name nd rfl (by first | exact .inl rfl | exact .inr rfl) (fun _ _ => trivial)) (dgs_cons (dg_name nd rfl (by first | exact .inl rfl | exact .inr rfl) (fun _ _ => trivial)) (dgs_cons (dg_name nd rfl (by first | exact .inl rfl | exact .inr rfl) (fun _ _ => trivial)) (dgs_cons (dg_name nd rfl (by first | exact .inl rfl | exact .inr rfl) (fun _ _ => trivial)) (dgs_nil))))))) (dss_one (ds_if (dt_cmp (dop_in u65) (de_var (pv 2)) (de_var (pv 1)) rfl) (dss_one (ds_asg (de_bl) ((by exact dg_dstI u1 (de_var (pv 1)) (de_var (pv 3)))))) (dss_nil)))) (dss_one (ds_ret (de_B (cb_sortedD rfl) (He.free_ok X Gn (c.fact 14 rfl)) (by first | rfl | decide +kernel) (da_cons (de_var (pv 1)) (da_nil))))))
theorem sc_reachable_services : FnScope (["system"] : List Str) ["system"] (defScope s_reachable_services) := ⟨rfl, rfl, rfl, by decide +kernel, rfl, by decide +kernel, by decide +kernel⟩
theorem ok_reachable_services {P : Program} {w : World} {K : PySem.W.Frag} {h base : Heap} {mg : Str → Option Value} (X : K.In h) (Gn : h.Ns mainGlobals mg) (c : Hx.Says fa fn fx K) :
    ∃ fd, FunD K "reachable_services" "reachable_services" (defArgs s_reachable_services) (defBody s_reachable_services) (defScope s_reachable_services) [] [] (He.fAd K ("reachable_services", none)) fd ∧ FnOk P w K mg base CX0 5 (He.fAd K ("reachable_services", none)) fd ["system"] (LSp (gK K P w (cmK K)) G.sp_reachable_services) ∧ Binds K fd ["system"] [] := by
  obtain ⟨fd, F⟩ := c.def_ 9 (d := d_reachable_services) rfl
  obtain ⟨fd_check_system, D_check_system, F_check_system, b_check_system⟩ := ok_check_system (P := P) (w := w) (base := base) X Gn c
  have k_check_system := D_check_system.kp
  obtain ⟨fd_reached, D_reached, F_reached, b_reached⟩ := ok_reached (P := P) (w := w) (base := base) X Gn c
  have k_reached := D_reached.kp
  refine ⟨fd, F, dfi (N := ["system"]) F sc_reachable_services fun hidn cdv A outer s H E hr => ?_, F.bindsN fun _ _ _ _ _ _ us hl => match us, hl with | [_], _ => rfl⟩
  have nd := sc_reachable_services.nd
  have u0 := hr.units0
  have u1 := u1_of hr
  have u30 := u30_of hr
  have u64 := hr.units
  have u65 := u65_of hr
  show PSs _ _ (LS _ acc0 G.t_reachable_services)
  exact dss_cons (ds_expr (de_call F_check_system (hr.mono (by first | decide | exact Nat.le_refl _)) (He.glo_ok X Gn (c.fact 19 rfl)) k_check_system b_check_system pass0 callAc0 (da_cons (de_var (pv 0)) (da_nil)))) (dss_one (ds_ret (de_call F_reached (hr.mono (by first | decide | exact Nat.le_refl _)) (He.glo_ok X Gn (c.fact 20 rfl)) k_reached b_reached pass0 callAc0 (da_cons (de_var (pv 0)) (da_nil)))))
theorem sc_calls_into : FnScope (["system", "service", "known", "index", "call"] : List Str) ["system", "service"] (defScope s_calls_into) := ⟨rfl, rfl, rfl, by decide +kernel, rfl, by decide +kernel, by decide +kernel⟩
theorem ok_calls_into {P : Program} {w : World} {K : PySem.W.Frag} {h base : Heap} {mg : Str → Option Value} (X : K.In h) (Gn : h.Ns mainGlobals mg) (c : Hx.Says fa fn fx K) :
    ∃ fd, FunD K "calls_into" "calls_into" (defArgs s_calls_into) (defBody s_calls_into) (defScope s_calls_into) [] [] (He.fAd K ("calls_into", none)) fd ∧ FnOk P w K mg base CX0 2 (He.fAd K ("calls_into", none)) fd ["system", "service"] (LSp (gK K P w (cmK K)) G.sp_calls_into) ∧ Binds K fd ["system", "service"] [] := by
  obtain ⟨fd, F⟩ := c.def_ 10 (d := d_calls_into) rfl
  obtain ⟨fd_reached, D_reached, F_reached, b_reached⟩ := ok_reached (P := P) (w := w) (base := base) X Gn c
  have k_reached := D_reached.kp
  refine ⟨fd, F, dfi (N := ["system", "service", "known", "index", "call"]) F sc_calls_into fun hidn cdv A outer s H E hr => ?_, F.bindsN fun _ _ _ _ _ _ us hl => match us, hl with | [_, _], _ => rfl⟩
  have nd := sc_calls_into.nd
  have u0 := hr.units0
  have u1 := u1_of hr
  have u30 := u30_of hr
  have u64 := hr.units
  have u65 := u65_of hr
  show PSs _ _ (LS _ acc0 G.t_calls_into)
  exact dss_cons (ds_set (i := 2) nd rfl (by first | exact .inl rfl | exact .inr rfl) (de_call F_reached (hr.mono (by first | decide | exact Nat.le_refl _)) (He.glo_ok X Gn (c.fact 20 rfl)) k_reached b_reached pass0 callAc0 (da_cons (de_var (pv 0)) (da_nil)))) (dss_one (ds_ret (de_lc (own := [("index", 3), ("call", 4)]) rfl nd (di_enum (He.free_ok X Gn (c.fact 24 rfl)) (de_ix u1 (de_var (pv 0)) (de_int))) (blk_ok (by rfl)) (fun z s H C cl fp => dg_tup rfl (dgs_cons (dg_name nd rfl (by first | exact .inl rfl | exact .inr rfl) (fun σ v => wipe_mem (by decide) σ (some v))) (dgs_cons (dg_name nd rfl (by first | exact .inl rfl | exact .inr rfl) (fun σ v => wipe_mem (by decide) σ (some v))) (dgs_nil)))) (fun z s H C cl fp => dts_one (PW.pt (dw_and (dt_cmp (dop_eq u64) (de_ix u1 (de_var (pv 4)) (de_int)) (de_var (pv 1)) rfl) (pw_and1 (dt_cmp (dop_in u65) (de_ix u1 (de_var (pv 4)) (de_int)) (de_var (pv 2)) rfl))))) (fun z s H C cl fp => de_tup (da_cons (de_var (pv 3)) (da_cons (de_var (pv 4)) (da_nil)))))))
theorem sc_message_pairs : FnScope (["table", "service", "messages", "index", "caller", "target", "offsets", "least", "most", "attempt", "offset", "pairs", "late_caller", "first", "latest", "late", "early_caller", "earliest", "last", "early"] : List Str) ["table", "service"] (defScope s_message_pairs) := ⟨rfl, rfl, rfl, by decide +kernel, rfl, by decide +kernel, by decide +kernel⟩
theorem ok_message_pairs {P : Program} {w : World} {K : PySem.W.Frag} {h base : Heap} {mg : Str → Option Value} (X : K.In h) (Gn : h.Ns mainGlobals mg) (c : Hx.Says fa fn fx K) :
    ∃ fd, FunD K "message_pairs" "message_pairs" (defArgs s_message_pairs) (defBody s_message_pairs) (defScope s_message_pairs) [] [] (He.fAd K ("message_pairs", none)) fd ∧ FnOk P w K mg base CX0 3 (He.fAd K ("message_pairs", none)) fd ["table", "service"] (LSp (gK K P w (cmK K)) G.sp_message_pairs) ∧ Binds K fd ["table", "service"] [] := by
  obtain ⟨fd, F⟩ := c.def_ 11 (d := d_message_pairs) rfl
  obtain ⟨fd_calls_into, D_calls_into, F_calls_into, b_calls_into⟩ := ok_calls_into (P := P) (w := w) (base := base) X Gn c
  have k_calls_into := D_calls_into.kp
  refine ⟨fd, F, dfi (N := ["table", "service", "messages", "index", "caller", "target", "offsets", "least", "most", "attempt", "offset", "pairs", "late_caller", "first", "latest", "late", "early_caller", "earliest", "last", "early"]) F sc_message_pairs fun hidn cdv A outer s H E hr => ?_, F.bindsN fun _ _ _ _ _ _ us hl => match us, hl with | [_, _], _ => rfl⟩
  have nd := sc_message_pairs.nd
  have u0 := hr.units0
  have u1 := u1_of hr
  have u30 := u30_of hr
  have u64 := hr.units
  have u65 := u65_of hr
  show PSs _ _ (LS _ acc0 G.t_message_pairs)
  exact dss_cons (ds_set (i := 2) nd rfl (by first | exact .inl rfl | exact .inr rfl) (de_lstH (da_nil))) (dss_cons (ds_for PassesOwn.never rfl (di_seq (de_call F_calls_into (hr.mono (by first | decide | exact Nat.le_refl _)) (He.glo_ok X Gn (c.fact 42 rfl)) k_calls_into b_calls_into pass0 callAc0 (da_cons (de_fld (f := "system") "DifferenceTable" (He.cls_ok (c.fact 36 rfl)) (He.noat_ok (c.fact 37 rfl)) (de_var (pv 0))) (da_cons (de_var (pv 1)) (da_nil))))) (dg_tup rfl (dgs_cons (dg_name nd rfl (by first | exact .inl rfl | exact .inr rfl) (fun _ _ => trivial)) (dgs_cons (dg_tup rfl (dgs_cons (dg_name nd rfl (by first | exact .inl rfl | exact .inr rfl) (fun _ _ => trivial)) (dgs_cons (dg_name nd rfl (by first | exact .inl rfl | exact .inr rfl) (fun _ _ => trivial)) (dgs_cons (dg_name nd rfl (by first | exact .inl rfl | exact .inr rfl) (fun _ _ => trivial)) (dgs_cons (dg_name nd rfl (by first | exact .inl rfl | exact .inr rfl) (fun _ _ => trivial)) (dgs_cons (dg_name nd rfl (by first | exact .inl rfl | exact .inr rfl) (fun _ _ => trivial)) (dgs_nil))))))) (dgs_nil)))) (dss_one (ds_for PassesOwn.never rfl (di_enum (He.free_ok X Gn (c.fact 24 rfl)) (de_var (pv 6))) (dg_tup rfl (dgs_cons (dg_name nd rfl (by first | exact .inl rfl | exact .inr rfl) (fun _ _ => trivial)) (dgs_cons (dg_name nd rfl (by first | exact .inl rfl | exact .inr rfl) (fun _ _ => trivial)) (dgs_nil)))) (dss_one (ds_expr (de_app (de_var (pv 2)) (da_cons (de_tup (da_cons (de_var (pv 4)) (da_cons (de_bin dop_add (de_var (pv 10)) (de_var (pv 7))) (da_cons (de_bin dop_add (de_var (pv 10)) (de_var (pv 8))) (da_cons (de_tup (da_cons (de_var (pv 3)) (da_cons (de_var (pv 9)) (da_nil)))) (da_nil)))))) (da_nil)))))))) (dss_cons (ds_set (i := 11) nd rfl (by first | exact .inl rfl | exact .inr rfl) (de_lstH (da_nil))) (dss_cons (ds_for PassesOwn.never rfl (di_seq (de_var (pv 2))) (dg_tup rfl (dgs_cons (dg_name nd rfl (by first | exact .inl rfl | exact .inr rfl) (fun _ _ => trivial)) (dgs_cons (dg_name nd rfl (by first | exact .inl rfl | exact .inr rfl) (fun _ _ => trivial)) (dgs_cons (dg_name nd rfl (by first | exact .inl rfl | exact .inr rfl) (fun _ _ => trivial)) (dgs_cons (dg_name nd rfl (by first | exact .inl rfl | exact .inr rfl) (fun _ _ => trivial)) (dgs_nil)))))) (dss_one (ds_for PassesOwn.never rfl (di_seq (de_var (pv 2))) (dg_tup rfl (dgs_cons (dg_name nd rfl (by first | exact .inl rfl | exact .inr rfl) (fun _ _ => trivial)) (dgs_cons (dg_name nd rfl (by first | exact .inl rfl | exact .inr rfl) (fun _ _ => trivial)) (dgs_cons (dg_name nd rfl (by first | exact .inl rfl | exact .inr rfl) (fun _ _ => trivial)) (dgs_cons (dg_name nd rfl (by first | exact .inl rfl | exact .inr rfl) (fun _ _ => trivial)) (dgs_nil)))))) (dss_one (ds_if (dt_cmp (dop_ne u64) (de_var (pv 15)) (de_var (pv 19)) rfl) (dss_one (ds_expr (de_app (de_var (pv 11)) (da_cons (de_tup (da_cons (de_bin dop_sub (de_bin dop_add (de_ix u1 (de_fld (f := "greatest") "DifferenceTable" (He.cls_ok (c.fact 36 rfl)) (He.noat_ok (c.fact 43 rfl)) (de_var (pv 0))) (de_tup (da_cons (de_var (pv 12)) (da_cons (de_var (pv 16)) (da_nil))))) (de_var (pv 14))) (de_var (pv 17))) (da_cons (de_var (pv 15)) (da_cons (de_var (pv 19)) (da_nil))))) (da_nil))))) (dss_nil)))))) (dss_frz 11 (dss_one (ds_ret (de_var (pv 11))))))))
theorem sc_widest_pair : FnScope (["table", "service", "pairs", "spread", "pair"] : List Str) ["table", "service"] (defScope s_widest_pair) := ⟨rfl, rfl, rfl, by decide +kernel, rfl, by decide +kernel, by decide +kernel⟩
theorem ok_widest_pair {P : Program} {w : World} {K : PySem.W.Frag} {h base : Heap} {mg : Str → Option Value} (X : K.In h) (Gn : h.Ns mainGlobals mg) (c : Hx.Says fa fn fx K) :
    ∃ fd, FunD K "widest_pair" "widest_pair" (defArgs s_widest_pair) (defBody s_widest_pair) (defScope s_widest_pair) [] [] (He.fAd K ("widest_pair", none)) fd ∧ FnOk P w K mg base CX0 4 (He.fAd K ("widest_pair", none)) fd ["table", "service"] (LSp (gK K P w (cmK K)) G.sp_widest_pair) ∧ Binds K fd ["table", "service"] [] := by
  obtain ⟨fd, F⟩ := c.def_ 12 (d := d_widest_pair) rfl
  obtain ⟨fd_message_pairs, D_message_pairs, F_message_pairs, b_message_pairs⟩ := ok_message_pairs (P := P) (w := w) (base := base) X Gn c
  have k_message_pairs := D_message_pairs.kp
  refine ⟨fd, F, dfi (N := ["table", "service", "pairs", "spread", "pair"]) F sc_widest_pair fun hidn cdv A outer s H E hr => ?_, F.bindsN fun _ _ _ _ _ _ us hl => match us, hl with | [_, _], _ => rfl⟩
  have nd := sc_widest_pair.nd
  have u0 := hr.units0
  have u1 := u1_of hr
  have u30 := u30_of hr
  have u64 := hr.units
  have u65 := u65_of hr
  show PSs _ _ (LS _ acc0 G.t_widest_pair)
  exact dss_cons (ds_set (i := 2) nd rfl (by first | exact .inl rfl | exact .inr rfl) (de_call F_message_pairs (hr.mono (by first | decide | exact Nat.le_refl _)) (He.glo_ok X Gn (c.fact 40 rfl)) k_message_pairs b_message_pairs pass0 callAc0 (da_cons (de_var (pv 0)) (da_cons (de_var (pv 1)) (da_nil))))) (dss_cons (ds_if (dt_cmp (dop_eq u64) (de_var (pv 2)) (de_lst (da_nil)) rfl) (dss_one (ds_ret (de_non))) (dss_nil)) (dss_cons (ds_set (i := 3) nd rfl (by first | exact .inl rfl | exact .inr rfl) (de_B (cb_max1 rfl u30) (He.free_ok X Gn (c.fact 10 rfl)) (by first | rfl | decide +kernel) (da_cons (de_lc (own := [("pair", 4)]) rfl nd (di_seq (de_var (pv 2))) (blk_ok (by rfl)) (fun z s H C cl fp => dg_name nd rfl (by first | exact .inl rfl | exact .inr rfl) (fun σ v => wipe_mem (by decide) σ (some v))) (fun z s H C cl fp => dts_nil) (fun z s H C cl fp => de_ix u1 (de_var (pv 4)) (de_int))) (da_nil)))) (dss_one (ds_ret (de_B (cb_min1 rfl u30) (He.free_ok X Gn (c.fact 41 rfl)) (by first | rfl | decide +kernel) (da_cons (de_lc (own := [("pair", 4)]) rfl nd (di_seq (de_var (pv 2))) (blk_ok (by rfl)) (fun z s H C cl fp => dg_name nd rfl (by first | exact .inl rfl | exact .inr rfl) (fun σ v => wipe_mem (by decide) σ (some v))) (fun z s H C cl fp => dts_one (dt_cmp (dop_eq u64) (de_ix u1 (de_var (pv 4)) (de_int)) (de_var (pv 3)) rfl)) (fun z s H C cl fp => de_var (pv 4))) (da_nil)))))))
theorem sc_find_least_windows : FnScope (["table", "windows", "service", "pair"] : List Str) ["table"] (defScope s_find_least_windows) := ⟨rfl, rfl, rfl, by decide +kernel, rfl, by decide +kernel, by decide +kernel⟩
theorem ok_find_least_windows {P : Program} {w : World} {K : PySem.W.Frag} {h base : Heap} {mg : Str → Option Value} (X : K.In h) (Gn : h.Ns mainGlobals mg) (c : Hx.Says fa fn fx K) :
    ∃ fd, FunD K "find_least_windows" "find_least_windows" (defArgs s_find_least_windows) (defBody s_find_least_windows) (defScope s_find_least_windows) [] [] (He.fAd K ("find_least_windows", none)) fd ∧ FnOk P w K mg base CX0 5 (He.fAd K ("find_least_windows", none)) fd ["table"] (LSp (gK K P w (cmK K)) G.sp_find_least_windows) ∧ Binds K fd ["table"] [] := by
  obtain ⟨fd, F⟩ := c.def_ 13 (d := d_find_least_windows) rfl
  obtain ⟨fd_widest_pair, D_widest_pair, F_widest_pair, b_widest_pair⟩ := ok_widest_pair (P := P) (w := w) (base := base) X Gn c
  have k_widest_pair := D_widest_pair.kp
  refine ⟨fd, F, dfi (N := ["table", "windows", "service", "pair"]) F sc_find_least_windows fun hidn cdv A outer s H E hr => ?_, F.bindsN fun _ _ _ _ _ _ us hl => match us, hl with | [_], _ => rfl⟩
  have nd := sc_find_least_windows.nd
  have u0 := hr.units0
  have u1 := u1_of hr
  have u30 := u30_of hr
  have u64 := hr.units
  have u65 := u65_of hr
  show PSs _ _ (LS _ acc0 G.t_find_least_windows)
  exact dss_cons (ds_set (i := 1) nd rfl (by first | exact .inl rfl | exact .inr rfl) (de_lstH (da_nil))) (dss_cons (ds_for PassesOwn.never rfl (di_rng1 (He.free_ok X Gn (c.fact 1 rfl)) (de_ix u1 (de_fld (f := "system") "DifferenceTable" (He.cls_ok (c.fact 36 rfl)) (He.noat_ok (c.fact 37 rfl)) (de_var (pv 0))) (de_int))) (dg_name nd rfl (by first | exact .inl rfl | exact .inr rfl) (fun _ _ => trivial)) (dss_cons (ds_set (i := 3) nd rfl (by first | exact .inl rfl | exact .inr rfl) (de_if (dt_cmp (dop_in u65) (de_var (pv 2)) (de_fld (f := "services") "DifferenceTable" (He.cls_ok (c.fact 36 rfl)) (He.noat_ok (c.fact 38 rfl)) (de_var (pv 0))) rfl) (de_call F_widest_pair (hr.mono (by first | decide | exact Nat.le_refl _)) (He.glo_ok X Gn (c.fact 39 rfl)) k_widest_pair b_widest_pair pass0 callAc0 (da_cons (de_var (pv 0)) (da_cons (de_var (pv 2)) (da_nil)))) (de_non))) (dss_one (ds_expr (de_app (de_var (pv 1)) (da_cons (de_if (dt_isN (de_var (pv 3))) (de_int) (de_ix u1 (de_var (pv 3)) (de_int))) (da_nil))))))) (dss_one (ds_ret (de_Ty (cb_tuple) (He.free_ok X Gn (c.fact 9 rfl)) (by first | rfl | decide +kernel) (da_cons (de_var (pv 1)) (da_nil))))))
theorem sc_DifferenceTable_enter_later : FnScope (["self", "service", "other", "best", "index", "caller", "target", "offsets", "least", "most", "value"] : List Str) ["self", "service", "other"] (defScope s_DifferenceTable_enter_later) := ⟨rfl, rfl, rfl, by decide +kernel, rfl, by decide +kernel, by decide +kernel⟩
theorem ok_DifferenceTable_enter_later {P : Program} {w : World} {K : PySem.W.Frag} {h base : Heap} {mg : Str → Option Value} (X : K.In h) (Gn : h.Ns mainGlobals mg) (c : Hx.Says fa fn fx K) :
    ∃ fd, FunD K "enter_later" "DifferenceTable.enter_later" (defArgs s_DifferenceTable_enter_later) (defBody s_DifferenceTable_enter_later) (defScope s_DifferenceTable_enter_later) [] [] (He.fAd K ("DifferenceTable", some "enter_later")) fd ∧ FnOk P w K mg base CX0 3 (He.fAd K ("DifferenceTable", some "enter_later")) fd ["self", "service", "other"] (LSp (gK K P w (cmK K)) G.sp_DifferenceTable_enter_later) ∧ Binds K fd ["self", "service", "other"] [] := by
  obtain ⟨fd, F⟩ := c.def_ 14 (d := d_DifferenceTable_enter_later) rfl
  obtain ⟨fd_calls_into, D_calls_into, F_calls_into, b_calls_into⟩ := ok_calls_into (P := P) (w := w) (base := base) X Gn c
  have k_calls_into := D_calls_into.kp
  refine ⟨fd, F, dfi (N := ["self", "service", "other", "best", "index", "caller", "target", "offsets", "least", "most", "value"]) F sc_DifferenceTable_enter_later fun hidn cdv A outer s H E hr => ?_, F.bindsN fun _ _ _ _ _ _ us hl => match us, hl with | [_, _, _], _ => rfl⟩
  have nd := sc_DifferenceTable_enter_later.nd
  have u0 := hr.units0
  have u1 := u1_of hr
  have u30 := u30_of hr
  have u64 := hr.units
  have u65 := u65_of hr
  show PSs _ _ (LS _ acc0 G.t_DifferenceTable_enter_later)
  exact dss_cons (ds_set (i := 3) nd rfl (by first | exact .inl rfl | exact .inr rfl) (de_non)) (dss_cons (ds_for PassesOwn.never rfl (di_seq (de_call F_calls_into (hr.mono (by first | decide | exact Nat.le_refl _)) (He.glo_ok X Gn (c.fact 42 rfl)) k_calls_into b_calls_into pass0 callAc0 (da_cons (de_fld (f := "system") "DifferenceTable" (He.cls_ok (c.fact 36 rfl)) (He.noat_ok (c.fact 37 rfl)) (de_var (pv 0))) (da_cons (de_var (pv 1)) (da_nil))))) (dg_tup rfl (dgs_cons (dg_name nd rfl (by first | exact .inl rfl | exact .inr rfl) (fun _ _ => trivial)) (dgs_cons (dg_tup rfl (dgs_cons (dg_name nd rfl (by first | exact .inl rfl | exact .inr rfl) (fun _ _ => trivial)) (dgs_cons (dg_name nd rfl (by first | exact .inl rfl | exact .inr rfl) (fun _ _ => trivial)) (dgs_cons (dg_name nd rfl (by first | exact .inl rfl | exact .inr rfl) (fun _ _ => trivial)) (dgs_cons (dg_name nd rfl (by first | exact .inl rfl | exact .inr rfl) (fun _ _ => trivial)) (dgs_cons (dg_name nd rfl (by first | exact .inl rfl | exact .inr rfl) (fun _ _ => trivial)) (dgs_nil))))))) (dgs_nil)))) (dss_cons (ds_set (i := 10) nd rfl (by first | exact .inl rfl | exact .inr rfl) (de_bin dop_add (de_bin dop_add (de_ix u1 (de_fld (f := "greatest") "DifferenceTable" (He.cls_ok (c.fact 36 rfl)) (He.noat_ok (c.fact 43 rfl)) (de_var (pv 0))) (de_tup (da_cons (de_var (pv 5)) (da_cons (de_var (pv 2)) (da_nil))))) (de_ix u1 (de_var (pv 7)) (de_un dun_neg (de_int)))) (de_var (pv 9)))) (dss_one (ds_if (PW.pt (dw_or (dt_isN (de_var (pv 3))) (pw_or1 (dt_cmp (dop_gt u0) (de_var (pv 10)) (de_ix u1 (de_var (pv 3)) (de_int)) rfl)))) (dss_one (ds_set (i := 3) nd rfl (by first | exact .inl rfl | exact .inr rfl) (de_tup (da_cons (de_var (pv 10)) (da_cons (de_tup (da_cons (de_var (pv 4)) (da_cons (de_bin dop_sub (de_B (cb_len) (He.free_ok X Gn (c.fact 13 rfl)) (by first | rfl | decide +kernel) (da_cons (de_var (pv 7)) (da_nil))) (de_int)) (da_cons (de_var (pv 9)) (da_nil))))) (da_nil)))))) (dss_nil))))) (dss_one (ds_asg (de_var (pv 3)) (dg_tup rfl (dgs_cons ((by exact dg_dstT u1 (de_fld (f := "greatest") "DifferenceTable" (He.cls_ok (c.fact 36 rfl)) (He.noat_ok (c.fact 43 rfl)) (de_var (pv 0))) (da_cons (de_var (pv 1)) (da_cons (de_var (pv 2)) (da_nil))))) (dgs_cons ((by exact dg_dstT u1 (de_fld (f := "steps") "DifferenceTable" (He.cls_ok (c.fact 36 rfl)) (He.noat_ok (c.fact 44 rfl)) (de_var (pv 0))) (da_cons (de_var (pv 1)) (da_cons (de_var (pv 2)) (da_nil))))) (dgs_nil)))))))
theorem sc_DifferenceTable_enter_earlier : FnScope (["self", "other", "service", "best", "index", "caller", "target", "offsets", "least", "most", "value"] : List Str) ["self", "other", "service"] (defScope s_DifferenceTable_enter_earlier) := ⟨rfl, rfl, rfl, by decide +kernel, rfl, by decide +kernel, by decide +kernel⟩
theorem ok_DifferenceTable_enter_earlier {P : Program} {w : World} {K : PySem.W.Frag} {h base : Heap} {mg : Str → Option Value} (X : K.In h) (Gn : h.Ns mainGlobals mg) (c : Hx.Says fa fn fx K) :
    ∃ fd, FunD K "enter_earlier" "DifferenceTable.enter_earlier" (defArgs s_DifferenceTable_enter_earlier) (defBody s_DifferenceTable_enter_earlier) (defScope s_DifferenceTable_enter_earlier) [] [] (He.fAd K ("DifferenceTable", some "enter_earlier")) fd ∧ FnOk P w K mg base CX0 3 (He.fAd K ("DifferenceTable", some "enter_earlier")) fd ["self", "other", "service"] (LSp (gK K P w (cmK K)) G.sp_DifferenceTable_enter_earlier) ∧ Binds K fd ["self", "other", "service"] [] := by
  obtain ⟨fd, F⟩ := c.def_ 15 (d := d_DifferenceTable_enter_earlier) rfl
  obtain ⟨fd_calls_into, D_calls_into, F_calls_into, b_calls_into⟩ := ok_calls_into (P := P) (w := w) (base := base) X Gn c
  have k_calls_into := D_calls_into.kp
  refine ⟨fd, F, dfi (N := ["self", "other", "service", "best", "index", "caller", "target", "offsets", "least", "most", "value"]) F sc_DifferenceTable_enter_earlier fun hidn cdv A outer s H E hr => ?_, F.bindsN fun _ _ _ _ _ _ us hl => match us, hl with | [_, _, _], _ => rfl⟩
  have nd := sc_DifferenceTable_enter_earlier.nd
  have u0 := hr.units0
  have u1 := u1_of hr
  have u30 := u30_of hr
  have u64 := hr.units
  have u65 := u65_of hr
  show PSs _ _ (LS _ acc0 G.t_DifferenceTable_enter_earlier)
  exact dss_cons (ds_set (i := 3) nd rfl (by first | exact .inl rfl | exact .inr rfl) (de_non)) (dss_cons (ds_for PassesOwn.never rfl (di_seq (de_call F_calls_into (hr.mono (by first | decide | exact Nat.le_refl _)) (He.glo_ok X Gn (c.fact 42 rfl)) k_calls_into b_calls_into pass0 callAc0 (da_cons (de_fld (f := "system") "DifferenceTable" (He.cls_ok (c.fact 36 rfl)) (He.noat_ok (c.fact 37 rfl)) (de_var (pv 0))) (da_cons (de_var (pv 2)) (da_nil))))) (dg_tup rfl (dgs_cons (dg_name nd rfl (by first | exact .inl rfl | exact .inr rfl) (fun _ _ => trivial)) (dgs_cons (dg_tup rfl (dgs_cons (dg_name nd rfl (by first | exact .inl rfl | exact .inr rfl) (fun _ _ => trivial)) (dgs_cons (dg_name nd rfl (by first | exact .inl rfl | exact .inr rfl) (fun _ _ => trivial)) (dgs_cons (dg_name nd rfl (by first | exact .inl rfl | exact .inr rfl) (fun _ _ => trivial)) (dgs_cons (dg_name nd rfl (by first | exact .inl rfl | exact .inr rfl) (fun _ _ => trivial)) (dgs_cons (dg_name nd rfl (by first | exact .inl rfl | exact .inr rfl) (fun _ _ => trivial)) (dgs_nil))))))) (dgs_nil)))) (dss_cons (ds_set (i := 10) nd rfl (by first | exact .inl rfl | exact .inr rfl) (de_bin dop_sub (de_bin dop_sub (de_ix u1 (de_fld (f := "greatest") "DifferenceTable" (He.cls_ok (c.fact 36 rfl)) (He.noat_ok (c.fact 43 rfl)) (de_var (pv 0))) (de_tup (da_cons (de_var (pv 1)) (da_cons (de_var (pv 5)) (da_nil))))) (de_ix u1 (de_var (pv 7)) (de_int))) (de_var (pv 8)))) (dss_one (ds_if (PW.pt (dw_or (dt_isN (de_var (pv 3))) (pw_or1 (dt_cmp (dop_gt u0) (de_var (pv 10)) (de_ix u1 (de_var (pv 3)) (de_int)) rfl)))) (dss_one (ds_set (i := 3) nd rfl (by first | exact .inl rfl | exact .inr rfl) (de_tup (da_cons (de_var (pv 10)) (da_cons (de_tup (da_cons (de_var (pv 4)) (da_cons (de_int) (da_cons (de_var (pv 8)) (da_nil))))) (da_nil)))))) (dss_nil))))) (dss_one (ds_asg (de_var (pv 3)) (dg_tup rfl (dgs_cons ((by exact dg_dstT u1 (de_fld (f := "greatest") "DifferenceTable" (He.cls_ok (c.fact 36 rfl)) (He.noat_ok (c.fact 43 rfl)) (de_var (pv 0))) (da_cons (de_var (pv 1)) (da_cons (de_var (pv 2)) (da_nil))))) (dgs_cons ((by exact dg_dstT u1 (de_fld (f := "steps") "DifferenceTable" (He.cls_ok (c.fact 36 rfl)) (He.noat_ok (c.fact 44 rfl)) (de_var (pv 0))) (da_cons (de_var (pv 1)) (da_cons (de_var (pv 2)) (da_nil))))) (dgs_nil)))))))
theorem sc_DifferenceTable___init__ : FnScope (["self", "system", "greater", "smaller", "service"] : List Str) ["self", "system"] (defScope s_DifferenceTable___init__) := ⟨rfl, rfl, rfl, by decide +kernel, rfl, by decide +kernel, by decide +kernel⟩
theorem ok_DifferenceTable___init__ {P : Program} {w : World} {K : PySem.W.Frag} {h base : Heap} {mg : Str → Option Value} (X : K.In h) (Gn : h.Ns mainGlobals mg) (c : Hx.Says fa fn fx K) :
    ∃ fd, FunD K "__init__" "DifferenceTable.__init__" (defArgs s_DifferenceTable___init__) (defBody s_DifferenceTable___init__) (defScope s_DifferenceTable___init__) [] [] (He.fAd K ("DifferenceTable", some "__init__")) fd ∧ FnOk P w K mg base CX0 4 (He.fAd K ("DifferenceTable", some "__init__")) fd ["self", "system"] (LSp (gK K P w (cmK K)) G.sp_DifferenceTable___init__) ∧ Binds K fd ["self", "system"] [] := by
  obtain ⟨fd, F⟩ := c.def_ 16 (d := d_DifferenceTable___init__) rfl
  obtain ⟨fd_reached, D_reached, F_reached, b_reached⟩ := ok_reached (P := P) (w := w) (base := base) X Gn c
  have k_reached := D_reached.kp
  obtain ⟨fd_DifferenceTable_enter_later, D_DifferenceTable_enter_later, F_DifferenceTable_enter_later, b_DifferenceTable_enter_later⟩ := ok_DifferenceTable_enter_later (P := P) (w := w) (base := base) X Gn c
  have k_DifferenceTable_enter_later := D_DifferenceTable_enter_later.kp
  obtain ⟨fd_DifferenceTable_enter_earlier, D_DifferenceTable_enter_earlier, F_DifferenceTable_enter_earlier, b_DifferenceTable_enter_earlier⟩ := ok_DifferenceTable_enter_earlier (P := P) (w := w) (base := base) X Gn c
  have k_DifferenceTable_enter_earlier := D_DifferenceTable_enter_earlier.kp
  refine ⟨fd, F, dfi (N := ["self", "system", "greater", "smaller", "service"]) F sc_DifferenceTable___init__ fun hidn cdv A outer s H E hr => ?_, F.bindsN fun _ _ _ _ _ _ us hl => match us, hl with | [_, _], _ => rfl⟩
  have nd := sc_DifferenceTable___init__.nd
  have u0 := hr.units0
  have u1 := u1_of hr
  have u30 := u30_of hr
  have u64 := hr.units
  have u65 := u65_of hr
  show PSs _ _ (LS _ acc0 G.t_DifferenceTable___init__)
  exact dss_cons (ds_fld (c := "DifferenceTable") (f := "system") (He.cls_ok (c.fact 36 rfl)) (He.noat_ok (c.fact 37 rfl)) (de_var (pv 0)) (de_var (pv 1))) (dss_cons (ds_fld (c := "DifferenceTable") (f := "services") (He.cls_ok (c.fact 36 rfl)) (He.noat_ok (c.fact 38 rfl)) (de_var (pv 0)) (de_call F_reached (hr.mono (by first | decide | exact Nat.le_refl _)) (He.glo_ok X Gn (c.fact 20 rfl)) k_reached b_reached pass0 callAc0 (da_cons (de_var (pv 1)) (da_nil)))) (dss_cons (ds_fld (c := "DifferenceTable") (f := "greatest") (He.cls_ok (c.fact 36 rfl)) (He.noat_ok (c.fact 43 rfl)) (de_var (pv 0)) (de_dnew true)) (dss_cons (ds_fld (c := "DifferenceTable") (f := "steps") (He.cls_ok (c.fact 36 rfl)) (He.noat_ok (c.fact 44 rfl)) (de_var (pv 0)) (de_dnew true)) (dss_one (ds_for PassesOwn.never rfl (di_seq (de_fld (f := "services") "DifferenceTable" (He.cls_ok (c.fact 36 rfl)) (He.noat_ok (c.fact 38 rfl)) (de_var (pv 0)))) (dg_name nd rfl (by first | exact .inl rfl | exact .inr rfl) (fun _ _ => trivial)) (dss_cons (ds_asg (de_int) ((by exact dg_dstT u1 (de_fld (f := "greatest") "DifferenceTable" (He.cls_ok (c.fact 36 rfl)) (He.noat_ok (c.fact 43 rfl)) (de_var (pv 0))) (da_cons (de_var (pv 2)) (da_cons (de_var (pv 2)) (da_nil)))))) (dss_one (ds_for PassesOwn.never rfl (di_seq (de_lc (own := [("service", 4)]) rfl nd (di_seq (de_fld (f := "services") "DifferenceTable" (He.cls_ok (c.fact 36 rfl)) (He.noat_ok (c.fact 38 rfl)) (de_var (pv 0)))) (blk_ok (by rfl)) (fun z s H C cl fp => dg_name nd rfl (by first | exact .inl rfl | exact .inr rfl) (fun σ v => wipe_mem (by decide) σ (some v))) (fun z s H C cl fp => dts_one (dt_cmp (dop_lt u0) (de_var (pv 4)) (de_var (pv 2)) rfl)) (fun z s H C cl fp => de_var (pv 4)))) (dg_name nd rfl (by first | exact .inl rfl | exact .inr rfl) (fun _ _ => trivial)) (dss_cons (ds_expr (de_meth (c := "DifferenceTable") (m := "enter_later") (de_var (pv 0)) (He.cls_ok (c.fact 36 rfl)) (He.meth_ok (c.fact 45 rfl)) F_DifferenceTable_enter_later (hr.mono (by decide)) b_DifferenceTable_enter_later pass0 callAc0 (da_cons (de_var (pv 2)) (da_cons (de_var (pv 3)) (da_nil))))) (dss_one (ds_expr (de_meth (c := "DifferenceTable") (m := "enter_earlier") (de_var (pv 0)) (He.cls_ok (c.fact 36 rfl)) (He.meth_ok (c.fact 46 rfl)) F_DifferenceTable_enter_earlier (hr.mono (by decide)) b_DifferenceTable_enter_earlier pass0 callAc0 (da_cons (de_var (pv 3)) (da_cons (de_var (pv 2)) (da_nil)))))))))))))))
theorem sc_least_windows : FnScope (["system"] : List Str) ["system"] (defScope s_least_windows) := ⟨rfl, rfl, rfl, by decide +kernel, rfl, by decide +kernel, by decide +kernel⟩
theorem ok_least_windows {P : Program} {w : World} {K : PySem.W.Frag} {h base : Heap} {mg : Str → Option Value} (X : K.In h) (Gn : h.Ns mainGlobals mg) (c : Hx.Says fa fn fx K) :
    ∃ fd, FunD K "least_windows" "least_windows" (defArgs s_least_windows) (defBody s_least_windows) (defScope s_least_windows) [] [] (He.fAd K ("least_windows", none)) fd ∧ FnOk P w K mg base CX0 6 (He.fAd K ("least_windows", none)) fd ["system"] (LSp (gK K P w (cmK K)) G.sp_least_windows) ∧ Binds K fd ["system"] [] := by
  obtain ⟨fd, F⟩ := c.def_ 17 (d := d_least_windows) rfl
  obtain ⟨fd_check_system, D_check_system, F_check_system, b_check_system⟩ := ok_check_system (P := P) (w := w) (base := base) X Gn c
  have k_check_system := D_check_system.kp
  obtain ⟨fd_find_least_windows, D_find_least_windows, F_find_least_windows, b_find_least_windows⟩ := ok_find_least_windows (P := P) (w := w) (base := base) X Gn c
  have k_find_least_windows := D_find_least_windows.kp
  obtain ⟨fd_DifferenceTable___init__, D_DifferenceTable___init__, F_DifferenceTable___init__, b_DifferenceTable___init__⟩ := ok_DifferenceTable___init__ (P := P) (w := w) (base := base) X Gn c
  have k_DifferenceTable___init__ := D_DifferenceTable___init__.kp
  refine ⟨fd, F, dfi (N := ["system"]) F sc_least_windows fun hidn cdv A outer s H E hr => ?_, F.bindsN fun _ _ _ _ _ _ us hl => match us, hl with | [_], _ => rfl⟩
  have nd := sc_least_windows.nd
  have u0 := hr.units0
  have u1 := u1_of hr
  have u30 := u30_of hr
  have u64 := hr.units
  have u65 := u65_of hr
  show PSs _ _ (LS _ acc0 G.t_least_windows)
  exact dss_cons (ds_expr (de_call F_check_system (hr.mono (by first | decide | exact Nat.le_refl _)) (He.glo_ok X Gn (c.fact 19 rfl)) k_check_system b_check_system pass0 callAc0 (da_cons (de_var (pv 0)) (da_nil)))) (dss_one (ds_ret (de_call F_find_least_windows (hr.mono (by first | decide | exact Nat.le_refl _)) (He.glo_ok X Gn (c.fact 33 rfl)) k_find_least_windows b_find_least_windows pass0 callAc0 (da_cons (de_make (c := "DifferenceTable") (He.mkr_ok (c.fact 35 rfl)) F_DifferenceTable___init__ (hr.mono (by decide)) (He.glo_ok X Gn (c.fact 34 rfl)) b_DifferenceTable___init__ pass0 callAc0 (da_cons (de_var (pv 0)) (da_nil))) (da_nil)))))
theorem sc__law_pick : FnScope (["_law_d", "_law_some"] : List Str) ["_law_d", "_law_some"] (defScope s__law_pick) := ⟨rfl, rfl, rfl, by decide +kernel, rfl, by decide +kernel, by decide +kernel⟩
theorem ok__law_pick {P : Program} {w : World} {K : PySem.W.Frag} {h base : Heap} {mg : Str → Option Value} (X : K.In h) (Gn : h.Ns mainGlobals mg) (c : Hx.Says fa fn fx K) :
    ∃ fd, FunD K "_law_pick" "_law_pick" (defArgs s__law_pick) (defBody s__law_pick) (defScope s__law_pick) [] [] (He.fAd K ("_law_pick", none)) fd ∧ FnOk P w K mg base CX0 2 (He.fAd K ("_law_pick", none)) fd ["_law_d", "_law_some"] (LSp (gK K P w (cmK K)) G.sp__law_pick) ∧ Binds K fd ["_law_d", "_law_some"] [] := by
  obtain ⟨fd, F⟩ := c.def_ 18 (d := d__law_pick) rfl
  obtain ⟨fd__law_next, D__law_next, F__law_next, b__law_next⟩ := ok__law_next (P := P) (w := w) (base := base) X Gn c
  have k__law_next := D__law_next.kp
  refine ⟨fd, F, dfi (N := ["_law_d", "_law_some"]) F sc__law_pick fun hidn cdv A outer s H E hr => ?_, F.bindsN fun _ _ _ _ _ _ us hl => match us, hl with | [_, _], _ => rfl⟩
  have nd := sc__law_pick.nd
  have u0 := hr.units0
  have u1 := u1_of hr
  have u30 := u30_of hr
  have u64 := hr.units
  have u65 := u65_of hr
  show PSs _ _ (LS _ acc0 G.t__law_pick)
  exact dss_one (ds_ret (de_ix u1 (de_var (pv 1)) (de_call F__law_next (hr.mono (by first | decide | exact Nat.le_refl _)) (He.glo_ok X Gn (c.fact 3 rfl)) k__law_next b__law_next pass0 callAc0 (da_cons (de_var (pv 0)) (da_cons (de_B (cb_len) (He.free_ok X Gn (c.fact 13 rfl)) (by first | rfl | decide +kernel) (da_cons (de_var (pv 1)) (da_nil))) (da_nil))))))
theorem sc_check_reached : FnScope (["system", "service"] : List Str) ["system", "service"] (defScope s_check_reached) := ⟨rfl, rfl, rfl, by decide +kernel, rfl, by decide +kernel, by decide +kernel⟩
theorem ok_check_reached {P : Program} {w : World} {K : PySem.W.Frag} {h base : Heap} {mg : Str → Option Value} (X : K.In h) (Gn : h.Ns mainGlobals mg) (c : Hx.Says fa fn fx K) :
    ∃ fd, FunD K "check_reached" "check_reached" (defArgs s_check_reached) (defBody s_check_reached) (defScope s_check_reached) [] [] (He.fAd K ("check_reached", none)) fd ∧ FnOk P w K mg base CX0 2 (He.fAd K ("check_reached", none)) fd ["system", "service"] (LSp (gK K P w (cmK K)) G.sp_check_reached) ∧ Binds K fd ["system", "service"] [] := by
  obtain ⟨fd, F⟩ := c.def_ 19 (d := d_check_reached) rfl
  obtain ⟨fd_is_integer, D_is_integer, F_is_integer, b_is_integer⟩ := ok_is_integer (P := P) (w := w) (base := base) X Gn c
  have k_is_integer := D_is_integer.kp
  obtain ⟨fd_reached, D_reached, F_reached, b_reached⟩ := ok_reached (P := P) (w := w) (base := base) X Gn c
  have k_reached := D_reached.kp
  refine ⟨fd, F, dfi (N := ["system", "service"]) F sc_check_reached fun hidn cdv A outer s H E hr => ?_, F.bindsN fun _ _ _ _ _ _ us hl => match us, hl with | [_, _], _ => rfl⟩
  have nd := sc_check_reached.nd
  have u0 := hr.units0
  have u1 := u1_of hr
  have u30 := u30_of hr
  have u64 := hr.units
  have u65 := u65_of hr
  show PSs _ _ (LS _ acc0 G.t_check_reached)
  exact dss_one (ds_if (PW.pt (dw_or (dt_not (dt_val (de_call F_is_integer (hr.mono (by first | decide | exact Nat.le_refl _)) (He.glo_ok X Gn (c.fact 22 rfl)) k_is_integer b_is_integer pass0 callAc0 (da_cons (de_var (pv 1)) (da_cons (de_int) (da_cons (de_bin dop_sub (de_ix u1 (de_var (pv 0)) (de_int)) (de_int)) (da_nil))))))) (pw_or1 (dt_cmp (dop_notIn u65) (de_var (pv 1)) (de_call F_reached (hr.mono (by first | decide | exact Nat.le_refl _)) (He.glo_ok X Gn (c.fact 20 rfl)) k_reached b_reached pass0 callAc0 (da_cons (de_var (pv 0)) (da_nil))) rfl)))) (dss_one (ds_never (fun _ _ _ h => h.elim))) (dss_nil))
theorem sc_difference : FnScope (["system", "service", "other"] : List Str) ["system", "service", "other"] (defScope s_difference) := ⟨rfl, rfl, rfl, by decide +kernel, rfl, by decide +kernel, by decide +kernel⟩
theorem ok_difference {P : Program} {w : World} {K : PySem.W.Frag} {h base : Heap} {mg : Str → Option Value} (X : K.In h) (Gn : h.Ns mainGlobals mg) (c : Hx.Says fa fn fx K) :
    ∃ fd, FunD K "difference" "difference" (defArgs s_difference) (defBody s_difference) (defScope s_difference) [] [] (He.fAd K ("difference", none)) fd ∧ FnOk P w K mg base CX0 6 (He.fAd K ("difference", none)) fd ["system", "service", "other"] (LSp (gK K P w (cmK K)) G.sp_difference) ∧ Binds K fd ["system", "service", "other"] [] := by
  obtain ⟨fd, F⟩ := c.def_ 20 (d := d_difference) rfl
  obtain ⟨fd_check_system, D_check_system, F_check_system, b_check_system⟩ := ok_check_system (P := P) (w := w) (base := base) X Gn c
  have k_check_system := D_check_system.kp
  obtain ⟨fd_check_reached, D_check_reached, F_check_reached, b_check_reached⟩ := ok_check_reached (P := P) (w := w) (base := base) X Gn c
  have k_check_reached := D_check_reached.kp
  obtain ⟨fd_DifferenceTable___init__, D_DifferenceTable___init__, F_DifferenceTable___init__, b_DifferenceTable___init__⟩ := ok_DifferenceTable___init__ (P := P) (w := w) (base := base) X Gn c
  have k_DifferenceTable___init__ := D_DifferenceTable___init__.kp
  refine ⟨fd, F, dfi (N := ["system", "service", "other"]) F sc_difference fun hidn cdv A outer s H E hr => ?_, F.bindsN fun _ _ _ _ _ _ us hl => match us, hl with | [_, _, _], _ => rfl⟩
  have nd := sc_difference.nd
  have u0 := hr.units0
  have u1 := u1_of hr
  have u30 := u30_of hr
  have u64 := hr.units
  have u65 := u65_of hr
  show PSs _ _ (LS _ acc0 G.t_difference)
  exact dss_cons (ds_expr (de_call F_check_system (hr.mono (by first | decide | exact Nat.le_refl _)) (He.glo_ok X Gn (c.fact 19 rfl)) k_check_system b_check_system pass0 callAc0 (da_cons (de_var (pv 0)) (da_nil)))) (dss_cons (ds_expr (de_call F_check_reached (hr.mono (by first | decide | exact Nat.le_refl _)) (He.glo_ok X Gn (c.fact 47 rfl)) k_check_reached b_check_reached pass0 callAc0 (da_cons (de_var (pv 0)) (da_cons (de_var (pv 1)) (da_nil))))) (dss_cons (ds_expr (de_call F_check_reached (hr.mono (by first | decide | exact Nat.le_refl _)) (He.glo_ok X Gn (c.fact 47 rfl)) k_check_reached b_check_reached pass0 callAc0 (da_cons (de_var (pv 0)) (da_cons (de_var (pv 2)) (da_nil))))) (dss_one (ds_ret (de_ix u1 (de_fld (f := "greatest") "DifferenceTable" (He.cls_ok (c.fact 36 rfl)) (He.noat_ok (c.fact 43 rfl)) (de_make (c := "DifferenceTable") (He.mkr_ok (c.fact 35 rfl)) F_DifferenceTable___init__ (hr.mono (by decide)) (He.glo_ok X Gn (c.fact 34 rfl)) b_DifferenceTable___init__ pass0 callAc0 (da_cons (de_var (pv 0)) (da_nil)))) (de_tup (da_cons (de_var (pv 1)) (da_cons (de_var (pv 2)) (da_nil)))))))))
theorem sc_check_windows : FnScope (["system", "windows", "index", "window"] : List Str) ["system", "windows"] (defScope s_check_windows) := ⟨rfl, rfl, rfl, by decide +kernel, rfl, by decide +kernel, by decide +kernel⟩
theorem ok_check_windows {P : Program} {w : World} {K : PySem.W.Frag} {h base : Heap} {mg : Str → Option Value} (X : K.In h) (Gn : h.Ns mainGlobals mg) (c : Hx.Says fa fn fx K) :
    ∃ fd, FunD K "check_windows" "check_windows" (defArgs s_check_windows) (defBody s_check_windows) (defScope s_check_windows) [] [] (He.fAd K ("check_windows", none)) fd ∧ FnOk P w K mg base CX0 2 (He.fAd K ("check_windows", none)) fd ["system", "windows"] (LSp (gK K P w (cmK K)) G.sp_check_windows) ∧ Binds K fd ["system", "windows"] [] := by
  obtain ⟨fd, F⟩ := c.def_ 21 (d := d_check_windows) rfl
  obtain ⟨fd_is_integer, D_is_integer, F_is_integer, b_is_integer⟩ := ok_is_integer (P := P) (w := w) (base := base) X Gn c
  have k_is_integer := D_is_integer.kp
  refine ⟨fd, F, dfi (N := ["system", "windows", "index", "window"]) F sc_check_windows fun hidn cdv A outer s H E hr => ?_, F.bindsN fun _ _ _ _ _ _ us hl => match us, hl with | [_, _], _ => rfl⟩
  have nd := sc_check_windows.nd
  have u0 := hr.units0
  have u1 := u1_of hr
  have u30 := u30_of hr
  have u64 := hr.units
  have u65 := u65_of hr
  show PSs _ _ (LS _ acc0 G.t_check_windows)
  exact dss_cons (ds_if (dt_not (dt_val (de_B (cb_isi) (He.free_ok X Gn (c.fact 21 rfl)) (by first | rfl | decide +kernel) (da_cons (de_var (pv 1)) (da_cons (de_bty (He.free_ok X Gn (c.fact 9 rfl)) (by first | rfl | decide +kernel)) (da_nil)))))) (dss_one (ds_never (fun _ _ _ h => h.elim))) (dss_nil)) (dss_cons (ds_for PassesOwn.never rfl (di_enum (He.free_ok X Gn (c.fact 24 rfl)) (de_var (pv 1))) (dg_tup rfl (dgs_cons (dg_name nd rfl (by first | exact .inl rfl | exact .inr rfl) (fun _ _ => trivial)) (dgs_cons (dg_name nd rfl (by first | exact .inl rfl | exact .inr rfl) (fun _ _ => trivial)) (dgs_nil)))) (dss_one (ds_if (PW.pt (dw_or (dt_cmp (dop_eq u64) (de_var (pv 2)) (de_ix u1 (de_var (pv 0)) (de_int)) rfl) (pw_or1 (dt_not (dt_val (de_call F_is_integer (hr.mono (by first | decide | exact Nat.le_refl _)) (He.glo_ok X Gn (c.fact 22 rfl)) k_is_integer b_is_integer pass0 callAc0 (da_cons (de_var (pv 3)) (da_cons (de_int) (da_cons (de_gint (He.int_ok X Gn (c.fact 50 rfl))) (da_nil)))))))))) (dss_one (ds_never (fun _ _ _ h => h.elim))) (dss_nil)))) (dss_one (ds_if (dt_cmp (dop_lt u0) (de_B (cb_len) (He.free_ok X Gn (c.fact 13 rfl)) (by first | rfl | decide +kernel) (da_cons (de_var (pv 1)) (da_nil))) (de_ix u1 (de_var (pv 0)) (de_int)) rfl) (dss_one (ds_never (fun _ _ _ h => h.elim))) (dss_nil))))
theorem sc_latest_forgetting : FnScope (["system", "windows", "table", "rows", "service", "ticks", "negative"] : List Str) ["system", "windows"] (defScope s_latest_forgetting) := ⟨rfl, rfl, rfl, by decide +kernel, rfl, by decide +kernel, by decide +kernel⟩
theorem ok_latest_forgetting {P : Program} {w : World} {K : PySem.W.Frag} {h base : Heap} {mg : Str → Option Value} (X : K.In h) (Gn : h.Ns mainGlobals mg) (c : Hx.Says fa fn fx K) :
    ∃ fd, FunD K "latest_forgetting" "latest_forgetting" (defArgs s_latest_forgetting) (defBody s_latest_forgetting) (defScope s_latest_forgetting) [] [] (He.fAd K ("latest_forgetting", none)) fd ∧ FnOk P w K mg base CX0 6 (He.fAd K ("latest_forgetting", none)) fd ["system", "windows"] (LSp (gK K P w (cmK K)) G.sp_latest_forgetting) ∧ Binds K fd ["system", "windows"] [] := by
  obtain ⟨fd, F⟩ := c.def_ 22 (d := d_latest_forgetting) rfl
  obtain ⟨fd_DifferenceTable___init__, D_DifferenceTable___init__, F_DifferenceTable___init__, b_DifferenceTable___init__⟩ := ok_DifferenceTable___init__ (P := P) (w := w) (base := base) X Gn c
  have k_DifferenceTable___init__ := D_DifferenceTable___init__.kp
  refine ⟨fd, F, dfi (N := ["system", "windows", "table", "rows", "service", "ticks", "negative"]) F sc_latest_forgetting fun hidn cdv A outer s H E hr => ?_, F.bindsN fun _ _ _ _ _ _ us hl => match us, hl with | [_, _], _ => rfl⟩
  have nd := sc_latest_forgetting.nd
  have u0 := hr.units0
  have u1 := u1_of hr
  have u30 := u30_of hr
  have u64 := hr.units
  have u65 := u65_of hr
  show PSs _ _ (LS _ acc0 G.t_latest_forgetting)
  exact dss_cons (ds_par (i := 2) (j := 3) rfl nd rfl rfl (by decide) rfl rfl (de_make (c := "DifferenceTable") (He.mkr_ok (c.fact 35 rfl)) F_DifferenceTable___init__ (hr.mono (by decide)) (He.glo_ok X Gn (c.fact 34 rfl)) b_DifferenceTable___init__ pass0 callAc0 (da_cons (de_var (pv 0)) (da_nil))) (de_lstH (da_nil)) rfl) (dss_cons (ds_for PassesOwn.never rfl (di_seq (de_fld (f := "services") "DifferenceTable" (He.cls_ok (c.fact 36 rfl)) (He.noat_ok (c.fact 38 rfl)) (de_var (pv 2)))) (dg_name nd rfl (by first | exact .inl rfl | exact .inr rfl) (fun _ _ => trivial)) (dss_cons (ds_set (i := 5) nd rfl (by first | exact .inl rfl | exact .inr rfl) (de_bin dop_add (de_bin dop_add (de_ix u1 (de_var (pv 1)) (de_var (pv 4))) (de_ix u1 (de_fld (f := "greatest") "DifferenceTable" (He.cls_ok (c.fact 36 rfl)) (He.noat_ok (c.fact 43 rfl)) (de_var (pv 2))) (de_tup (da_cons (de_var (pv 4)) (da_cons (de_int) (da_nil)))))) (de_ix u1 (de_fld (f := "greatest") "DifferenceTable" (He.cls_ok (c.fact 36 rfl)) (He.noat_ok (c.fact 43 rfl)) (de_var (pv 2))) (de_tup (da_cons (de_int) (da_cons (de_var (pv 4)) (da_nil))))))) (dss_one (ds_expr (de_app (de_var (pv 3)) (da_cons (de_tup (da_cons (de_var (pv 5)) (da_cons (de_un dun_neg (de_var (pv 4))) (da_nil)))) (da_nil))))))) (dss_cons (ds_asg (de_B (cb_max1 rfl u30) (He.free_ok X Gn (c.fact 10 rfl)) (by first | rfl | decide +kernel) (da_cons (de_var (pv 3)) (da_nil))) (dg_tup rfl (dgs_cons (dg_name nd rfl (by first | exact .inl rfl | exact .inr rfl) (fun _ _ => trivial)) (dgs_cons (dg_name nd rfl (by first | exact .inl rfl | exact .inr rfl) (fun _ _ => trivial)) (dgs_nil))))) (dss_one (ds_ret (de_tup (da_cons (de_var (pv 5)) (da_cons (de_un dun_neg (de_var (pv 6))) (da_nil))))))))
theorem sc_least_reuse_time : FnScope (["system", "windows"] : List Str) ["system", "windows"] (defScope s_least_reuse_time) := ⟨rfl, rfl, rfl, by decide +kernel, rfl, by decide +kernel, by decide +kernel⟩
theorem ok_least_reuse_time {P : Program} {w : World} {K : PySem.W.Frag} {h base : Heap} {mg : Str → Option Value} (X : K.In h) (Gn : h.Ns mainGlobals mg) (c : Hx.Says fa fn fx K) :
    ∃ fd, FunD K "least_reuse_time" "least_reuse_time" (defArgs s_least_reuse_time) (defBody s_least_reuse_time) (defScope s_least_reuse_time) [] [] (He.fAd K ("least_reuse_time", none)) fd ∧ FnOk P w K mg base CX0 7 (He.fAd K ("least_reuse_time", none)) fd ["system", "windows"] (LSp (gK K P w (cmK K)) G.sp_least_reuse_time) ∧ Binds K fd ["system", "windows"] [] := by
  obtain ⟨fd, F⟩ := c.def_ 23 (d := d_least_reuse_time) rfl
  obtain ⟨fd_check_system, D_check_system, F_check_system, b_check_system⟩ := ok_check_system (P := P) (w := w) (base := base) X Gn c
  have k_check_system := D_check_system.kp
  obtain ⟨fd_check_windows, D_check_windows, F_check_windows, b_check_windows⟩ := ok_check_windows (P := P) (w := w) (base := base) X Gn c
  have k_check_windows := D_check_windows.kp
  obtain ⟨fd_latest_forgetting, D_latest_forgetting, F_latest_forgetting, b_latest_forgetting⟩ := ok_latest_forgetting (P := P) (w := w) (base := base) X Gn c
  have k_latest_forgetting := D_latest_forgetting.kp
  refine ⟨fd, F, dfi (N := ["system", "windows"]) F sc_least_reuse_time fun hidn cdv A outer s H E hr => ?_, F.bindsN fun _ _ _ _ _ _ us hl => match us, hl with | [_, _], _ => rfl⟩
  have nd := sc_least_reuse_time.nd
  have u0 := hr.units0
  have u1 := u1_of hr
  have u30 := u30_of hr
  have u64 := hr.units
  have u65 := u65_of hr
  show PSs _ _ (LS _ acc0 G.t_least_reuse_time)
  exact dss_cons (ds_expr (de_call F_check_system (hr.mono (by first | decide | exact Nat.le_refl _)) (He.glo_ok X Gn (c.fact 19 rfl)) k_check_system b_check_system pass0 callAc0 (da_cons (de_var (pv 0)) (da_nil)))) (dss_cons (ds_expr (de_call F_check_windows (hr.mono (by first | decide | exact Nat.le_refl _)) (He.glo_ok X Gn (c.fact 48 rfl)) k_check_windows b_check_windows pass0 callAc0 (da_cons (de_var (pv 0)) (da_cons (de_var (pv 1)) (da_nil))))) (dss_one (ds_ret (de_bin dop_add (de_ix u1 (de_call F_latest_forgetting (hr.mono (by first | decide | exact Nat.le_refl _)) (He.glo_ok X Gn (c.fact 49 rfl)) k_latest_forgetting b_latest_forgetting pass0 callAc0 (da_cons (de_var (pv 0)) (da_cons (de_var (pv 1)) (da_nil)))) (de_int)) (de_int)))))
theorem sc_first_short_window : FnScope (["system", "windows", "service", "least"] : List Str) ["system", "windows"] (defScope s_first_short_window) := ⟨rfl, rfl, rfl, by decide +kernel, rfl, by decide +kernel, by decide +kernel⟩
theorem ok_first_short_window {P : Program} {w : World} {K : PySem.W.Frag} {h base : Heap} {mg : Str → Option Value} (X : K.In h) (Gn : h.Ns mainGlobals mg) (c : Hx.Says fa fn fx K) :
    ∃ fd, FunD K "first_short_window" "first_short_window" (defArgs s_first_short_window) (defBody s_first_short_window) (defScope s_first_short_window) [] [] (He.fAd K ("first_short_window", none)) fd ∧ FnOk P w K mg base CX0 6 (He.fAd K ("first_short_window", none)) fd ["system", "windows"] (LSp (gK K P w (cmK K)) G.sp_first_short_window) ∧ Binds K fd ["system", "windows"] [] := by
  obtain ⟨fd, F⟩ := c.def_ 24 (d := d_first_short_window) rfl
  obtain ⟨fd_check_system, D_check_system, F_check_system, b_check_system⟩ := ok_check_system (P := P) (w := w) (base := base) X Gn c
  have k_check_system := D_check_system.kp
  obtain ⟨fd_check_windows, D_check_windows, F_check_windows, b_check_windows⟩ := ok_check_windows (P := P) (w := w) (base := base) X Gn c
  have k_check_windows := D_check_windows.kp
  obtain ⟨fd_find_least_windows, D_find_least_windows, F_find_least_windows, b_find_least_windows⟩ := ok_find_least_windows (P := P) (w := w) (base := base) X Gn c
  have k_find_least_windows := D_find_least_windows.kp
  obtain ⟨fd_DifferenceTable___init__, D_DifferenceTable___init__, F_DifferenceTable___init__, b_DifferenceTable___init__⟩ := ok_DifferenceTable___init__ (P := P) (w := w) (base := base) X Gn c
  have k_DifferenceTable___init__ := D_DifferenceTable___init__.kp
  refine ⟨fd, F, dfi (N := ["system", "windows", "service", "least"]) F sc_first_short_window fun hidn cdv A outer s H E hr => ?_, F.bindsN fun _ _ _ _ _ _ us hl => match us, hl with | [_, _], _ => rfl⟩
  have nd := sc_first_short_window.nd
  have u0 := hr.units0
  have u1 := u1_of hr
  have u30 := u30_of hr
  have u64 := hr.units
  have u65 := u65_of hr
  show PSs _ _ (LS _ acc0 G.t_first_short_window)
  exact dss_cons (ds_expr (de_call F_check_system (hr.mono (by first | decide | exact Nat.le_refl _)) (He.glo_ok X Gn (c.fact 19 rfl)) k_check_system b_check_system pass0 callAc0 (da_cons (de_var (pv 0)) (da_nil)))) (dss_cons (ds_expr (de_call F_check_windows (hr.mono (by first | decide | exact Nat.le_refl _)) (He.glo_ok X Gn (c.fact 48 rfl)) k_check_windows b_check_windows pass0 callAc0 (da_cons (de_var (pv 0)) (da_cons (de_var (pv 1)) (da_nil))))) (dss_cons (ds_for PassesOwn.never rfl (di_enum (He.free_ok X Gn (c.fact 24 rfl)) (de_call F_find_least_windows (hr.mono (by first | decide | exact Nat.le_refl _)) (He.glo_ok X Gn (c.fact 33 rfl)) k_find_least_windows b_find_least_windows pass0 callAc0 (da_cons (de_make (c := "DifferenceTable") (He.mkr_ok (c.fact 35 rfl)) F_DifferenceTable___init__ (hr.mono (by decide)) (He.glo_ok X Gn (c.fact 34 rfl)) b_DifferenceTable___init__ pass0 callAc0 (da_cons (de_var (pv 0)) (da_nil))) (da_nil)))) (dg_tup rfl (dgs_cons (dg_name nd rfl (by first | exact .inl rfl | exact .inr rfl) (fun _ _ => trivial)) (dgs_cons (dg_name nd rfl (by first | exact .inl rfl | exact .inr rfl) (fun _ _ => trivial)) (dgs_nil)))) (dss_one (ds_if (dt_cmp (dop_lt u0) (de_ix u1 (de_var (pv 1)) (de_var (pv 2))) (de_var (pv 3)) rfl) (dss_one (ds_ret (de_var (pv 2)))) (dss_nil)))) (dss_one (ds_ret (de_non)))))
theorem sc_DifferenceTable_messages_for : FnScope (["self", "late", "early", "messages", "index", "attempt", "delay"] : List Str) ["self", "late", "early"] (defScope s_DifferenceTable_messages_for) := ⟨rfl, rfl, rfl, by decide +kernel, rfl, by decide +kernel, by decide +kernel⟩
theorem ok_DifferenceTable_messages_for {P : Program} {w : World} {K : PySem.W.Frag} {h base : Heap} {mg : Str → Option Value} (X : K.In h) (Gn : h.Ns mainGlobals mg) (c : Hx.Says fa fn fx K) :
    ∃ fd, FunD K "messages_for" "DifferenceTable.messages_for" (defArgs s_DifferenceTable_messages_for) (defBody s_DifferenceTable_messages_for) (defScope s_DifferenceTable_messages_for) [] [] (He.fAd K ("DifferenceTable", some "messages_for")) fd ∧ FnOk P w K mg base CX0 1 (He.fAd K ("DifferenceTable", some "messages_for")) fd ["self", "late", "early"] (LSp (gK K P w (cmK K)) G.sp_DifferenceTable_messages_for) ∧ Binds K fd ["self", "late", "early"] [] := by
  obtain ⟨fd, F⟩ := c.def_ 25 (d := d_DifferenceTable_messages_for) rfl
  refine ⟨fd, F, dfi (N := ["self", "late", "early", "messages", "index", "attempt", "delay"]) F sc_DifferenceTable_messages_for fun hidn cdv A outer s H E hr => ?_, F.bindsN fun _ _ _ _ _ _ us hl => match us, hl with | [_, _, _], _ => rfl⟩
  have nd := sc_DifferenceTable_messages_for.nd
  have u0 := hr.units0
  have u1 := u1_of hr
  have u30 := u30_of hr
  have u64 := hr.units
  have u65 := u65_of hr
  show PSs _ _ (LS _ acc0 G.t_DifferenceTable_messages_for)
  exact dss_cons (ds_set (i := 3) nd rfl (by first | exact .inl rfl | exact .inr rfl) (de_lstH (da_nil))) (dss_cons (ds_while PassesOwn.never (dt_cmp (dop_ne u64) (de_var (pv 1)) (de_var (pv 2)) rfl) (dss_cons (ds_asg (de_ix u1 (de_fld (f := "steps") "DifferenceTable" (He.cls_ok (c.fact 36 rfl)) (He.noat_ok (c.fact 44 rfl)) (de_var (pv 0))) (de_tup (da_cons (de_var (pv 1)) (da_cons (de_var (pv 2)) (da_nil))))) (dg_tup rfl (dgs_cons (dg_name nd rfl (by first | exact .inl rfl | exact .inr rfl) (fun _ _ => trivial)) (dgs_cons (dg_name nd rfl (by first | exact .inl rfl | exact .inr rfl) (fun _ _ => trivial)) (dgs_cons (dg_name nd rfl (by first | exact .inl rfl | exact .inr rfl) (fun _ _ => trivial)) (dgs_nil)))))) (dss_cons (ds_expr (de_app (de_var (pv 3)) (da_cons (de_tup (da_cons (de_var (pv 4)) (da_cons (de_var (pv 5)) (da_cons (de_var (pv 6)) (da_nil))))) (da_nil)))) (dss_one (ds_if (dt_cmp (dop_gt u0) (de_var (pv 1)) (de_var (pv 2)) rfl) (dss_one (ds_set (i := 1) nd rfl (by first | exact .inl rfl | exact .inr rfl) (de_ix u1 (de_ix u1 (de_ix u1 (de_fld (f := "system") "DifferenceTable" (He.cls_ok (c.fact 36 rfl)) (He.noat_ok (c.fact 37 rfl)) (de_var (pv 0))) (de_int)) (de_var (pv 4))) (de_int)))) (dss_one (ds_set (i := 2) nd rfl (by first | exact .inl rfl | exact .inr rfl) (de_ix u1 (de_ix u1 (de_ix u1 (de_fld (f := "system") "DifferenceTable" (He.cls_ok (c.fact 36 rfl)) (He.noat_ok (c.fact 37 rfl)) (de_var (pv 0))) (de_int)) (de_var (pv 4))) (de_int))))))))) (dss_cons (ds_while PassesOwn.never (dt_cmp (dop_ne u64) (de_var (pv 1)) (de_int) rfl) (dss_cons (ds_asg (de_ix u1 (de_fld (f := "steps") "DifferenceTable" (He.cls_ok (c.fact 36 rfl)) (He.noat_ok (c.fact 44 rfl)) (de_var (pv 0))) (de_tup (da_cons (de_var (pv 1)) (da_cons (de_int) (da_nil))))) (dg_tup rfl (dgs_cons (dg_name nd rfl (by first | exact .inl rfl | exact .inr rfl) (fun _ _ => trivial)) (dgs_cons (dg_name nd rfl (by first | exact .inl rfl | exact .inr rfl) (fun _ _ => trivial)) (dgs_cons (dg_name nd rfl (by first | exact .inl rfl | exact .inr rfl) (fun _ _ => trivial)) (dgs_nil)))))) (dss_cons (ds_expr (de_app (de_var (pv 3)) (da_cons (de_tup (da_cons (de_var (pv 4)) (da_cons (de_var (pv 5)) (da_cons (de_var (pv 6)) (da_nil))))) (da_nil)))) (dss_one (ds_set (i := 1) nd rfl (by first | exact .inl rfl | exact .inr rfl) (de_ix u1 (de_ix u1 (de_ix u1 (de_fld (f := "system") "DifferenceTable" (He.cls_ok (c.fact 36 rfl)) (He.noat_ok (c.fact 37 rfl)) (de_var (pv 0))) (de_int)) (de_var (pv 4))) (de_int))))))) (dss_one (ds_ret (de_var (pv 3))))))
theorem sc_schedule_of : FnScope (["messages", "index", "attempt", "delay"] : List Str) ["messages"] (defScope s_schedule_of) := ⟨rfl, rfl, rfl, by decide +kernel, rfl, by decide +kernel, by decide +kernel⟩
theorem ok_schedule_of {P : Program} {w : World} {K : PySem.W.Frag} {h base : Heap} {mg : Str → Option Value} (X : K.In h) (Gn : h.Ns mainGlobals mg) (c : Hx.Says fa fn fx K) :
    ∃ fd, FunD K "schedule_of" "schedule_of" (defArgs s_schedule_of) (defBody s_schedule_of) (defScope s_schedule_of) [] [] (He.fAd K ("schedule_of", none)) fd ∧ FnOk P w K mg base CX0 1 (He.fAd K ("schedule_of", none)) fd ["messages"] (LSp (gK K P w (cmK K)) G.sp_schedule_of) ∧ Binds K fd ["messages"] [] := by
  obtain ⟨fd, F⟩ := c.def_ 26 (d := d_schedule_of) rfl
  refine ⟨fd, F, dfi (N := ["messages", "index", "attempt", "delay"]) F sc_schedule_of fun hidn cdv A outer s H E hr => ?_, F.bindsN fun _ _ _ _ _ _ us hl => match us, hl with | [_], _ => rfl⟩
  have nd := sc_schedule_of.nd
  have u0 := hr.units0
  have u1 := u1_of hr
  have u30 := u30_of hr
  have u64 := hr.units
  have u65 := u65_of hr
  show PSs _ _ (LS _ acc0 G.t_schedule_of)
  exact dss_one (ds_ret (de_B (cb_sorted u30) (He.free_ok X Gn (c.fact 14 rfl)) (by first | rfl | decide +kernel) (da_cons (de_lc (own := [("index", 1), ("attempt", 2), ("delay", 3)]) rfl nd (di_seq (de_var (pv 0))) (blk_ok (by rfl)) (fun z s H C cl fp => dg_tup rfl (dgs_cons (dg_name nd rfl (by first | exact .inl rfl | exact .inr rfl) (fun σ v => wipe_mem (by decide) σ (some v))) (dgs_cons (dg_name nd rfl (by first | exact .inl rfl | exact .inr rfl) (fun σ v => wipe_mem (by decide) σ (some v))) (dgs_cons (dg_name nd rfl (by first | exact .inl rfl | exact .inr rfl) (fun σ v => wipe_mem (by decide) σ (some v))) (dgs_nil))))) (fun z s H C cl fp => dts_nil) (fun z s H C cl fp => de_tup (da_cons (de_int) (da_cons (de_int) (da_cons (de_var (pv 1)) (da_cons (de_var (pv 2)) (da_cons (de_var (pv 3)) (da_nil)))))))) (da_nil))))
theorem sc_double_act : FnScope (["system", "windows", "service", "table", "spread", "late", "early", "messages"] : List Str) ["system", "windows"] (defScope s_double_act) := ⟨rfl, rfl, rfl, by decide +kernel, rfl, by decide +kernel, by decide +kernel⟩
theorem ok_double_act {P : Program} {w : World} {K : PySem.W.Frag} {h base : Heap} {mg : Str → Option Value} (X : K.In h) (Gn : h.Ns mainGlobals mg) (c : Hx.Says fa fn fx K) :
    ∃ fd, FunD K "double_act" "double_act" (defArgs s_double_act) (defBody s_double_act) (defScope s_double_act) [] [] (He.fAd K ("double_act", none)) fd ∧ FnOk P w K mg base CX0 7 (He.fAd K ("double_act", none)) fd ["system", "windows"] (LSp (gK K P w (cmK K)) G.sp_double_act) ∧ Binds K fd ["system", "windows"] [] := by
  obtain ⟨fd, F⟩ := c.def_ 27 (d := d_double_act) rfl
  obtain ⟨fd_first_short_window, D_first_short_window, F_first_short_window, b_first_short_window⟩ := ok_first_short_window (P := P) (w := w) (base := base) X Gn c
  have k_first_short_window := D_first_short_window.kp
  obtain ⟨fd_DifferenceTable___init__, D_DifferenceTable___init__, F_DifferenceTable___init__, b_DifferenceTable___init__⟩ := ok_DifferenceTable___init__ (P := P) (w := w) (base := base) X Gn c
  have k_DifferenceTable___init__ := D_DifferenceTable___init__.kp
  obtain ⟨fd_widest_pair, D_widest_pair, F_widest_pair, b_widest_pair⟩ := ok_widest_pair (P := P) (w := w) (base := base) X Gn c
  have k_widest_pair := D_widest_pair.kp
  obtain ⟨fd_DifferenceTable_messages_for, D_DifferenceTable_messages_for, F_DifferenceTable_messages_for, b_DifferenceTable_messages_for⟩ := ok_DifferenceTable_messages_for (P := P) (w := w) (base := base) X Gn c
  have k_DifferenceTable_messages_for := D_DifferenceTable_messages_for.kp
  obtain ⟨fd_schedule_of, D_schedule_of, F_schedule_of, b_schedule_of⟩ := ok_schedule_of (P := P) (w := w) (base := base) X Gn c
  have k_schedule_of := D_schedule_of.kp
  refine ⟨fd, F, dfi (N := ["system", "windows", "service", "table", "spread", "late", "early", "messages"]) F sc_double_act fun hidn cdv A outer s H E hr => ?_, F.bindsN fun _ _ _ _ _ _ us hl => match us, hl with | [_, _], _ => rfl⟩
  have nd := sc_double_act.nd
  have u0 := hr.units0
  have u1 := u1_of hr
  have u30 := u30_of hr
  have u64 := hr.units
  have u65 := u65_of hr
  show PSs _ _ (LS _ acc0 G.t_double_act)
  exact dss_cons (ds_set (i := 2) nd rfl (by first | exact .inl rfl | exact .inr rfl) (de_call F_first_short_window (hr.mono (by first | decide | exact Nat.le_refl _)) (He.glo_ok X Gn (c.fact 51 rfl)) k_first_short_window b_first_short_window pass0 callAc0 (da_cons (de_var (pv 0)) (da_cons (de_var (pv 1)) (da_nil))))) (dss_cons (ds_if (dt_isN (de_var (pv 2))) (dss_one (ds_ret (de_non))) (dss_nil)) (dss_cons (ds_set (i := 3) nd rfl (by first | exact .inl rfl | exact .inr rfl) (de_make (c := "DifferenceTable") (He.mkr_ok (c.fact 35 rfl)) F_DifferenceTable___init__ (hr.mono (by decide)) (He.glo_ok X Gn (c.fact 34 rfl)) b_DifferenceTable___init__ pass0 callAc0 (da_cons (de_var (pv 0)) (da_nil)))) (dss_cons (ds_asg (de_call F_widest_pair (hr.mono (by first | decide | exact Nat.le_refl _)) (He.glo_ok X Gn (c.fact 39 rfl)) k_widest_pair b_widest_pair pass0 callAc0 (da_cons (de_var (pv 3)) (da_cons (de_var (pv 2)) (da_nil)))) (dg_tup rfl (dgs_cons (dg_name nd rfl (by first | exact .inl rfl | exact .inr rfl) (fun _ _ => trivial)) (dgs_cons (dg_name nd rfl (by first | exact .inl rfl | exact .inr rfl) (fun _ _ => trivial)) (dgs_cons (dg_name nd rfl (by first | exact .inl rfl | exact .inr rfl) (fun _ _ => trivial)) (dgs_nil)))))) (dss_cons (ds_set (i := 7) nd rfl (by first | exact .inl rfl | exact .inr rfl) (de_meth (c := "DifferenceTable") (m := "messages_for") (de_var (pv 3)) (He.cls_ok (c.fact 36 rfl)) (He.meth_ok (c.fact 52 rfl)) F_DifferenceTable_messages_for (hr.mono (by decide)) b_DifferenceTable_messages_for pass0 callAc0 (da_cons (de_ix u1 (de_ix u1 (de_ix u1 (de_var (pv 0)) (de_int)) (de_ix u1 (de_var (pv 5)) (de_int))) (de_int)) (da_cons (de_ix u1 (de_ix u1 (de_ix u1 (de_var (pv 0)) (de_int)) (de_ix u1 (de_var (pv 6)) (de_int))) (de_int)) (da_nil))))) (dss_cons (ds_expr (de_app (de_var (pv 7)) (da_cons (de_bin dop_add (de_var (pv 5)) (de_tup (da_cons (de_ix u1 (de_ix u1 (de_ix u1 (de_var (pv 0)) (de_int)) (de_ix u1 (de_var (pv 5)) (de_int))) (de_int)) (da_nil)))) (da_nil)))) (dss_cons (ds_expr (de_app (de_var (pv 7)) (da_cons (de_bin dop_add (de_var (pv 6)) (de_tup (da_cons (de_ix u1 (de_ix u1 (de_ix u1 (de_var (pv 0)) (de_int)) (de_ix u1 (de_var (pv 6)) (de_int))) (de_int)) (da_nil)))) (da_nil)))) (dss_one (ds_ret (de_tup (da_cons (de_var (pv 2)) (da_cons (de_call F_schedule_of (hr.mono (by first | decide | exact Nat.le_refl _)) (He.glo_ok X Gn (c.fact 53 rfl)) k_schedule_of b_schedule_of pass0 callAc0 (da_cons (de_var (pv 7)) (da_nil))) (da_nil))))))))))))
theorem sc_all_attempts : FnScope (["system", "index", "call", "attempt"] : List Str) ["system"] (defScope s_all_attempts) := ⟨rfl, rfl, rfl, by decide +kernel, rfl, by decide +kernel, by decide +kernel⟩
theorem ok_all_attempts {P : Program} {w : World} {K : PySem.W.Frag} {h base : Heap} {mg : Str → Option Value} (X : K.In h) (Gn : h.Ns mainGlobals mg) (c : Hx.Says fa fn fx K) :
    ∃ fd, FunD K "all_attempts" "all_attempts" (defArgs s_all_attempts) (defBody s_all_attempts) (defScope s_all_attempts) [] [] (He.fAd K ("all_attempts", none)) fd ∧ FnOk P w K mg base CX0 1 (He.fAd K ("all_attempts", none)) fd ["system"] (LSp (gK K P w (cmK K)) G.sp_all_attempts) ∧ Binds K fd ["system"] [] := by
  obtain ⟨fd, F⟩ := c.def_ 28 (d := d_all_attempts) rfl
  refine ⟨fd, F, dfi (N := ["system", "index", "call", "attempt"]) F sc_all_attempts fun hidn cdv A outer s H E hr => ?_, F.bindsN fun _ _ _ _ _ _ us hl => match us, hl with | [_], _ => rfl⟩
  have nd := sc_all_attempts.nd
  have u0 := hr.units0
  have u1 := u1_of hr
  have u30 := u30_of hr
  have u64 := hr.units
  have u65 := u65_of hr
  show PSs _ _ (LS _ acc0 G.t_all_attempts)
  exact dss_one (ds_ret ((by exact de_lc2 (own := [("index", 1), ("call", 2), ("attempt", 3)]) (vs1 := [3]) rfl nd (di_enum (He.free_ok X Gn (c.fact 24 rfl)) (de_ix u1 (de_var (pv 0)) (de_int))) (blk_ok (by rfl)) (by decide) (fun z s H C cl fp => dg_tup rfl (dgs_cons (dg_name nd rfl (by first | exact .inl rfl | exact .inr rfl) (fun σ v => wipe_mem (by decide) σ (some v))) (dgs_cons (dg_name nd rfl (by first | exact .inl rfl | exact .inr rfl) (fun σ v => wipe_mem (by decide) σ (some v))) (dgs_nil)))) (fun z s H C cl fp => dts_nil) (fun s H C cl fp => xi (He.free_ok X Gn (c.fact 1 rfl)) (fun z => de_B (cb_len) (He.free_ok X Gn (c.fact 13 rfl)) (by first | rfl | decide +kernel) (da_cons (de_ix u1 (de_var (pv 2)) (de_int)) (da_nil)))) (fun z s H C cl fp => dg_name nd rfl (by first | exact .inl rfl | exact .inr rfl) (fun σ v => wipe_mem (by decide) σ (some v))) (fun z s H C cl fp => dts_nil) (fun z s H C cl fp => de_tup (da_cons (de_var (pv 1)) (da_cons (de_var (pv 3)) (da_nil)))))))
theorem sc_without_attempts : FnScope (["system", "dropped", "calls", "index", "caller", "target", "offsets", "least", "most", "kept", "attempt", "offset"] : List Str) ["system", "dropped"] (defScope s_without_attempts) := ⟨rfl, rfl, rfl, by decide +kernel, rfl, by decide +kernel, by decide +kernel⟩
theorem ok_without_attempts {P : Program} {w : World} {K : PySem.W.Frag} {h base : Heap} {mg : Str → Option Value} (X : K.In h) (Gn : h.Ns mainGlobals mg) (c : Hx.Says fa fn fx K) :
    ∃ fd, FunD K "without_attempts" "without_attempts" (defArgs s_without_attempts) (defBody s_without_attempts) (defScope s_without_attempts) [] [] (He.fAd K ("without_attempts", none)) fd ∧ FnOk P w K mg base CX0 1 (He.fAd K ("without_attempts", none)) fd ["system", "dropped"] (LSp (gK K P w (cmK K)) G.sp_without_attempts) ∧ Binds K fd ["system", "dropped"] [] := by
  obtain ⟨fd, F⟩ := c.def_ 29 (d := d_without_attempts) rfl
  refine ⟨fd, F, dfi (N := ["system", "dropped", "calls", "index", "caller", "target", "offsets", "least", "most", "kept", "attempt", "offset"]) F sc_without_attempts fun hidn cdv A outer s H E hr => ?_, F.bindsN fun _ _ _ _ _ _ us hl => match us, hl with | [_, _], _ => rfl⟩
  have nd := sc_without_attempts.nd
  have u0 := hr.units0
  have u1 := u1_of hr
  have u30 := u30_of hr
  have u64 := hr.units
  have u65 := u65_of hr
  show PSs _ _ (LS _ acc0 G.t_without_attempts)
  exact dss_cons (ds_set (i := 2) nd rfl (by first | exact .inl rfl | exact .inr rfl) (de_lstH (da_nil))) (dss_cons (ds_for PassesOwn.never rfl (di_enum (He.free_ok X Gn (c.fact 24 rfl)) (de_ix u1 (de_var (pv 0)) (de_int))) (dg_tup rfl (dgs_cons (dg_name nd rfl (by first | exact .inl rfl | exact .inr rfl) (fun _ _ => trivial)) (dgs_cons (dg_tup rfl (dgs_cons (dg_name nd rfl (by first | exact .inl rfl | exact .inr rfl) (fun _ _ => trivial)) (dgs_cons (dg_name nd rfl (by first | exact .inl rfl | exact .inr rfl) (fun _ _ => trivial)) (dgs_cons (dg_name nd rfl (by first | exact .inl rfl | exact .inr rfl) (fun _ _ => trivial)) (dgs_cons (dg_name nd rfl (by first | exact .inl rfl | exact .inr rfl) (fun _ _ => trivial)) (dgs_cons (dg_name nd rfl (by first | exact .inl rfl | exact .inr rfl) (fun _ _ => trivial)) (dgs_nil))))))) (dgs_nil)))) (dss_cons (ds_set (i := 9) nd rfl (by first | exact .inl rfl | exact .inr rfl) (de_Ty (cb_tuple) (He.free_ok X Gn (c.fact 9 rfl)) (by first | rfl | decide +kernel) (da_cons (de_lc (own := [("attempt", 10), ("offset", 11)]) rfl nd (di_enum (He.free_ok X Gn (c.fact 24 rfl)) (de_var (pv 6))) (blk_ok (by rfl)) (fun z s H C cl fp => dg_tup rfl (dgs_cons (dg_name nd rfl (by first | exact .inl rfl | exact .inr rfl) (fun σ v => wipe_mem (by decide) σ (some v))) (dgs_cons (dg_name nd rfl (by first | exact .inl rfl | exact .inr rfl) (fun σ v => wipe_mem (by decide) σ (some v))) (dgs_nil)))) (fun z s H C cl fp => dts_one (dt_cmp (dop_notIn u65) (de_tup (da_cons (de_var (pv 3)) (da_cons (de_var (pv 10)) (da_nil)))) (de_var (pv 1)) rfl)) (fun z s H C cl fp => de_var (pv 11))) (da_nil)))) (dss_cons (ds_if (dt_cmp (dop_eq u64) (de_var (pv 9)) (de_tup (da_nil)) rfl) (dss_one (ds_ret (de_non))) (dss_nil)) (dss_one (ds_expr (de_app (de_var (pv 2)) (da_cons (de_tup (da_cons (de_var (pv 4)) (da_cons (de_var (pv 5)) (da_cons (de_var (pv 9)) (da_cons (de_var (pv 7)) (da_cons (de_var (pv 8)) (da_nil))))))) (da_nil)))))))) (dss_one (ds_ret (de_tup (da_cons (de_ix u1 (de_var (pv 0)) (de_int)) (da_cons (de_Ty (cb_tuple) (He.free_ok X Gn (c.fact 9 rfl)) (by first | rfl | decide +kernel) (da_cons (de_var (pv 2)) (da_nil))) (da_nil)))))))
theorem sc_drop_effects : FnScope (["system", "result", "attempt", "smaller"] : List Str) ["system"] (defScope s_drop_effects) := ⟨rfl, rfl, rfl, by decide +kernel, rfl, by decide +kernel, by decide +kernel⟩
theorem ok_drop_effects {P : Program} {w : World} {K : PySem.W.Frag} {h base : Heap} {mg : Str → Option Value} (X : K.In h) (Gn : h.Ns mainGlobals mg) (c : Hx.Says fa fn fx K) :
    ∃ fd, FunD K "drop_effects" "drop_effects" (defArgs s_drop_effects) (defBody s_drop_effects) (defScope s_drop_effects) [] [] (He.fAd K ("drop_effects", none)) fd ∧ FnOk P w K mg base CX0 6 (He.fAd K ("drop_effects", none)) fd ["system"] (LSp (gK K P w (cmK K)) G.sp_drop_effects) ∧ Binds K fd ["system"] [] := by
  obtain ⟨fd, F⟩ := c.def_ 30 (d := d_drop_effects) rfl
  obtain ⟨fd_check_system, D_check_system, F_check_system, b_check_system⟩ := ok_check_system (P := P) (w := w) (base := base) X Gn c
  have k_check_system := D_check_system.kp
  obtain ⟨fd_all_attempts, D_all_attempts, F_all_attempts, b_all_attempts⟩ := ok_all_attempts (P := P) (w := w) (base := base) X Gn c
  have k_all_attempts := D_all_attempts.kp
  obtain ⟨fd_without_attempts, D_without_attempts, F_without_attempts, b_without_attempts⟩ := ok_without_attempts (P := P) (w := w) (base := base) X Gn c
  have k_without_attempts := D_without_attempts.kp
  obtain ⟨fd_find_least_windows, D_find_least_windows, F_find_least_windows, b_find_least_windows⟩ := ok_find_least_windows (P := P) (w := w) (base := base) X Gn c
  have k_find_least_windows := D_find_least_windows.kp
  obtain ⟨fd_DifferenceTable___init__, D_DifferenceTable___init__, F_DifferenceTable___init__, b_DifferenceTable___init__⟩ := ok_DifferenceTable___init__ (P := P) (w := w) (base := base) X Gn c
  have k_DifferenceTable___init__ := D_DifferenceTable___init__.kp
  refine ⟨fd, F, dfi (N := ["system", "result", "attempt", "smaller"]) F sc_drop_effects fun hidn cdv A outer s H E hr => ?_, F.bindsN fun _ _ _ _ _ _ us hl => match us, hl with | [_], _ => rfl⟩
  have nd := sc_drop_effects.nd
  have u0 := hr.units0
  have u1 := u1_of hr
  have u30 := u30_of hr
  have u64 := hr.units
  have u65 := u65_of hr
  show PSs _ _ (LS _ acc0 G.t_drop_effects)
  exact dss_cons (ds_expr (de_call F_check_system (hr.mono (by first | decide | exact Nat.le_refl _)) (He.glo_ok X Gn (c.fact 19 rfl)) k_check_system b_check_system pass0 callAc0 (da_cons (de_var (pv 0)) (da_nil)))) (dss_cons (ds_set (i := 1) nd rfl (by first | exact .inl rfl | exact .inr rfl) (de_lstH (da_nil))) (dss_cons (ds_for PassesOwn.never rfl (di_seq (de_call F_all_attempts (hr.mono (by first | decide | exact Nat.le_refl _)) (He.glo_ok X Gn (c.fact 54 rfl)) k_all_attempts b_all_attempts pass0 callAc0 (da_cons (de_var (pv 0)) (da_nil)))) (dg_name nd rfl (by first | exact .inl rfl | exact .inr rfl) (fun _ _ => trivial)) (dss_cons (ds_set (i := 3) nd rfl (by first | exact .inl rfl | exact .inr rfl) (de_call F_without_attempts (hr.mono (by first | decide | exact Nat.le_refl _)) (He.glo_ok X Gn (c.fact 55 rfl)) k_without_attempts b_without_attempts pass0 callAc0 (da_cons (de_var (pv 0)) (da_cons (de_lst (da_cons (de_var (pv 2)) (da_nil))) (da_nil))))) (dss_one (ds_if (dt_isNotN (de_var (pv 3))) (dss_one (ds_expr (de_app (de_var (pv 1)) (da_cons (de_tup (da_cons (de_var (pv 2)) (da_cons (de_call F_find_least_windows (hr.mono (by first | decide | exact Nat.le_refl _)) (He.glo_ok X Gn (c.fact 33 rfl)) k_find_least_windows b_find_least_windows pass0 callAc0 (da_cons (de_make (c := "DifferenceTable") (He.mkr_ok (c.fact 35 rfl)) F_DifferenceTable___init__ (hr.mono (by decide)) (He.glo_ok X Gn (c.fact 34 rfl)) b_DifferenceTable___init__ pass0 callAc0 (da_cons (de_var (pv 3)) (da_nil))) (da_nil))) (da_nil)))) (da_nil))))) (dss_nil))))) (dss_frz 1 (dss_one (ds_ret (de_var (pv 1)))))))
theorem sc_law : FnScope (["_law_script", "_law_d", "_law_turn", "_law_system_here", "_law_count", "_law_calls", "_law_more", "_law_known", "_law_before", "_law_after", "_law_k", "_law_one", "_law_other", "_law_windows", "_law_caller", "_law_target", "_law_offsets", "_law_least", "_law_most", "_law_offset", "_law_wide", "_law_fuller", "_law_j"] : List Str) ["_law_script"] (defScope s_law) := ⟨rfl, rfl, rfl, by decide +kernel, rfl, by decide +kernel, by decide +kernel⟩
theorem ok_law {P : Program} {w : World} {K : PySem.W.Frag} {h base : Heap} {mg : Str → Option Value} (X : K.In h) (Gn : h.Ns mainGlobals mg) (c : Hx.Says fa fn fx K) :
    ∃ fd, FunD K "law" "law" (defArgs s_law) (defBody s_law) (defScope s_law) [] [] (He.fAd K ("law", none)) fd ∧ FnOk P w K mg base CX0 8 (He.fAd K ("law", none)) fd ["_law_script"] (LSp (gK K P w (cmK K)) G.sp_law) ∧ Binds K fd ["_law_script"] [] := by
  obtain ⟨fd, F⟩ := c.def_ 31 (d := d_law) rfl
  obtain ⟨fd__law_dice, D__law_dice, F__law_dice, b__law_dice⟩ := ok__law_dice (P := P) (w := w) (base := base) X Gn c
  have k__law_dice := D__law_dice.kp
  obtain ⟨fd__law_system, D__law_system, F__law_system, b__law_system⟩ := ok__law_system (P := P) (w := w) (base := base) X Gn c
  have k__law_system := D__law_system.kp
  obtain ⟨fd__law_next, D__law_next, F__law_next, b__law_next⟩ := ok__law_next (P := P) (w := w) (base := base) X Gn c
  have k__law_next := D__law_next.kp
  obtain ⟨fd__law_call, D__law_call, F__law_call, b__law_call⟩ := ok__law_call (P := P) (w := w) (base := base) X Gn c
  have k__law_call := D__law_call.kp
  obtain ⟨fd_reachable_services, D_reachable_services, F_reachable_services, b_reachable_services⟩ := ok_reachable_services (P := P) (w := w) (base := base) X Gn c
  have k_reachable_services := D_reachable_services.kp
  obtain ⟨fd_least_windows, D_least_windows, F_least_windows, b_least_windows⟩ := ok_least_windows (P := P) (w := w) (base := base) X Gn c
  have k_least_windows := D_least_windows.kp
  obtain ⟨fd__law_pick, D__law_pick, F__law_pick, b__law_pick⟩ := ok__law_pick (P := P) (w := w) (base := base) X Gn c
  have k__law_pick := D__law_pick.kp
  obtain ⟨fd_difference, D_difference, F_difference, b_difference⟩ := ok_difference (P := P) (w := w) (base := base) X Gn c
  have k_difference := D_difference.kp
  obtain ⟨fd_least_reuse_time, D_least_reuse_time, F_least_reuse_time, b_least_reuse_time⟩ := ok_least_reuse_time (P := P) (w := w) (base := base) X Gn c
  have k_least_reuse_time := D_least_reuse_time.kp
  obtain ⟨fd_double_act, D_double_act, F_double_act, b_double_act⟩ := ok_double_act (P := P) (w := w) (base := base) X Gn c
  have k_double_act := D_double_act.kp
  obtain ⟨fd_drop_effects, D_drop_effects, F_drop_effects, b_drop_effects⟩ := ok_drop_effects (P := P) (w := w) (base := base) X Gn c
  have k_drop_effects := D_drop_effects.kp
  refine ⟨fd, F, dfi (N := ["_law_script", "_law_d", "_law_turn", "_law_system_here", "_law_count", "_law_calls", "_law_more", "_law_known", "_law_before", "_law_after", "_law_k", "_law_one", "_law_other", "_law_windows", "_law_caller", "_law_target", "_law_offsets", "_law_least", "_law_most", "_law_offset", "_law_wide", "_law_fuller", "_law_j"]) F sc_law fun hidn cdv A outer s H E hr => ?_, F.bindsN fun _ _ _ _ _ _ us hl => match us, hl with | [_], _ => rfl⟩
  have nd := sc_law.nd
  have u0 := hr.units0
  have u1 := u1_of hr
  have u30 := u30_of hr
  have u64 := hr.units
  have u65 := u65_of hr
  show PSs _ _ (LS _ acc0 G.t_law)
  exact dss_cons (ds_set (i := 1) nd rfl (by first | exact .inl rfl | exact .inr rfl) (de_call F__law_dice (hr.mono (by first | decide | exact Nat.le_refl _)) (He.glo_ok X Gn (c.fact 0 rfl)) k__law_dice b__law_dice pass0 callAc0 (da_cons (de_var (pv 0)) (da_nil)))) (dss_cons (ds_for PassesOwn.never rfl (di_rng1 (He.free_ok X Gn (c.fact 1 rfl)) (de_int)) (dg_name nd rfl (by first | exact .inl rfl | exact .inr rfl) (fun _ _ => trivial)) (dss_cons (ds_set (i := 3) nd rfl (by first | exact .inl rfl | exact .inr rfl) (de_call F__law_system (hr.mono (by first | decide | exact Nat.le_refl _)) (He.glo_ok X Gn (c.fact 2 rfl)) k__law_system b__law_system pass0 callAc0 (da_cons (de_var (pv 1)) (da_cons (de_int) (da_cons (de_int) (da_cons (de_ix u1 (de_lst (da_cons (de_int) (da_cons (de_int) (da_nil)))) (de_call F__law_next (hr.mono (by first | decide | exact Nat.le_refl _)) (He.glo_ok X Gn (c.fact 3 rfl)) k__law_next b__law_next pass0 callAc0 (da_cons (de_var (pv 1)) (da_cons (de_int) (da_nil))))) (da_nil))))))) (dss_cons (ds_asg (de_var (pv 3)) (dg_tup rfl (dgs_cons (dg_name nd rfl (by first | exact .inl rfl | exact .inr rfl) (fun _ _ => trivial)) (dgs_cons (dg_name nd rfl (by first | exact .inl rfl | exact .inr rfl) (fun _ _ => trivial)) (dgs_nil))))) (dss_one (ds_if (dt_cmp (dop_gt u0) (de_var (pv 4)) (de_int) rfl) (dss_cons (ds_set (i := 6) nd rfl (by first | exact .inl rfl | exact .inr rfl) (de_tup (da_cons (de_var (pv 4)) (da_cons (de_bin dop_add (de_var (pv 5)) (de_tup (da_cons (de_call F__law_call (hr.mono (by first | decide | exact Nat.le_refl _)) (He.glo_ok X Gn (c.fact 4 rfl)) k__law_call b__law_call pass0 callAc0 (da_cons (de_var (pv 1)) (da_cons (de_var (pv 4)) (da_cons (de_int) (da_nil))))) (da_nil)))) (da_nil))))) (dss_cons (ds_set (i := 7) nd rfl (by first | exact .inl rfl | exact .inr rfl) (de_call F_reachable_services (hr.mono (by first | decide | exact Nat.le_refl _)) (He.glo_ok X Gn (c.fact 5 rfl)) k_reachable_services b_reachable_services pass0 callAc0 (da_cons (de_var (pv 3)) (da_nil)))) (dss_cons (ds_asg (de_tup (da_cons (de_call F_least_windows (hr.mono (by first | decide | exact Nat.le_refl _)) (He.glo_ok X Gn (c.fact 6 rfl)) k_least_windows b_least_windows pass0 callAc0 (da_cons (de_var (pv 3)) (da_nil))) (da_cons (de_call F_least_windows (hr.mono (by first | decide | exact Nat.le_refl _)) (He.glo_ok X Gn (c.fact 6 rfl)) k_least_windows b_least_windows pass0 callAc0 (da_cons (de_var (pv 6)) (da_nil))) (da_nil)))) (dg_tup rfl (dgs_cons (dg_name nd rfl (by first | exact .inl rfl | exact .inr rfl) (fun _ _ => trivial)) (dgs_cons (dg_name nd rfl (by first | exact .inl rfl | exact .inr rfl) (fun _ _ => trivial)) (dgs_nil))))) (dss_cons (ds_if (dt_cmp (dop_ne u64) (de_lc (own := [("_law_k", 10)]) rfl nd (di_rng1 (He.free_ok X Gn (c.fact 1 rfl)) (de_var (pv 4))) (blk_ok (by rfl)) (fun z s H C cl fp => dg_name nd rfl (by first | exact .inl rfl | exact .inr rfl) (fun σ v => wipe_mem (by decide) σ (some v))) (fun z s H C cl fp => dts_one (PW.pt (dw_and (dt_cmp (dop_in u65) (de_var (pv 10)) (de_var (pv 7)) rfl) (pw_and1 (dt_cmp (dop_lt u0) (de_ix u1 (de_var (pv 9)) (de_var (pv 10))) (de_ix u1 (de_var (pv 8)) (de_var (pv 10))) rfl))))) (fun z s H C cl fp => de_var (pv 10))) (de_lst (da_nil)) rfl) (dss_one (ds_ret (de_bl))) (dss_nil)) (dss_cons (ds_for PassesOwn.never rfl (di_seq (de_var (pv 7))) (dg_name nd rfl (by first | exact .inl rfl | exact .inr rfl) (fun _ _ => trivial)) (dss_cons (ds_set (i := 12) nd rfl (by first | exact .inl rfl | exact .inr rfl) (de_call F__law_pick (hr.mono (by first | decide | exact Nat.le_refl _)) (He.glo_ok X Gn (c.fact 7 rfl)) k__law_pick b__law_pick pass0 callAc0 (da_cons (de_var (pv 1)) (da_cons (de_var (pv 7)) (da_nil))))) (dss_one (ds_if (dt_cmp (dop_lt u0) (de_call F_difference (hr.mono (by first | decide | exact Nat.le_refl _)) (He.glo_ok X Gn (c.fact 8 rfl)) k_difference b_difference pass0 callAc0 (da_cons (de_var (pv 6)) (da_cons (de_var (pv 11)) (da_cons (de_var (pv 12)) (da_nil))))) (de_call F_difference (hr.mono (by first | decide | exact Nat.le_refl _)) (He.glo_ok X Gn (c.fact 8 rfl)) k_difference b_difference pass0 callAc0 (da_cons (de_var (pv 3)) (da_cons (de_var (pv 11)) (da_cons (de_var (pv 12)) (da_nil))))) rfl) (dss_one (ds_ret (de_bl))) (dss_nil))))) (dss_cons (ds_set (i := 13) nd rfl (by first | exact .inl rfl | exact .inr rfl) (de_Ty (cb_tuple) (He.free_ok X Gn (c.fact 9 rfl)) (by first | rfl | decide +kernel) (da_cons (de_lc (own := [("_law_k", 10)]) rfl nd (di_rng1 (He.free_ok X Gn (c.fact 1 rfl)) (de_var (pv 4))) (blk_ok (by rfl)) (fun z s H C cl fp => dg_name nd rfl (by first | exact .inl rfl | exact .inr rfl) (fun σ v => wipe_mem (by decide) σ (some v))) (fun z s H C cl fp => dts_nil) (fun z s H C cl fp => de_B (cb_max2 rfl) (He.free_ok X Gn (c.fact 10 rfl)) (by first | rfl | decide +kernel) (da_cons (de_ix u1 (de_var (pv 8)) (de_var (pv 10))) (da_cons (de_ix u1 (de_var (pv 9)) (de_var (pv 10))) (da_nil))))) (da_nil)))) (dss_cons (ds_if (dt_cmp (dop_lt u0) (de_call F_least_reuse_time (hr.mono (by first | decide | exact Nat.le_refl _)) (He.glo_ok X Gn (c.fact 11 rfl)) k_least_reuse_time b_least_reuse_time pass0 callAc0 (da_cons (de_var (pv 6)) (da_cons (de_var (pv 13)) (da_nil)))) (de_call F_least_reuse_time (hr.mono (by first | decide | exact Nat.le_refl _)) (He.glo_ok X Gn (c.fact 11 rfl)) k_least_reuse_time b_least_reuse_time pass0 callAc0 (da_cons (de_var (pv 3)) (da_cons (de_var (pv 13)) (da_nil)))) rfl) (dss_one (ds_ret (de_bl))) (dss_nil)) (dss_cons (ds_if (PW.pt (dw_or (dt_isNotN (de_call F_double_act (hr.mono (by first | decide | exact Nat.le_refl _)) (He.glo_ok X Gn (c.fact 12 rfl)) k_double_act b_double_act pass0 callAc0 (da_cons (de_var (pv 3)) (da_cons (de_var (pv 13)) (da_nil))))) (pw_or1 (dt_isNotN (de_call F_double_act (hr.mono (by first | decide | exact Nat.le_refl _)) (He.glo_ok X Gn (c.fact 12 rfl)) k_double_act b_double_act pass0 callAc0 (da_cons (de_var (pv 6)) (da_cons (de_var (pv 13)) (da_nil)))))))) (dss_one (ds_ret (de_bl))) (dss_nil)) (dss_cons (ds_set (i := 10) nd rfl (by first | exact .inl rfl | exact .inr rfl) (de_call F__law_next (hr.mono (by first | decide | exact Nat.le_refl _)) (He.glo_ok X Gn (c.fact 3 rfl)) k__law_next b__law_next pass0 callAc0 (da_cons (de_var (pv 1)) (da_cons (de_bin dop_add (de_B (cb_len) (He.free_ok X Gn (c.fact 13 rfl)) (by first | rfl | decide +kernel) (da_cons (de_var (pv 5)) (da_nil))) (de_int)) (da_nil))))) (dss_cons (ds_asg (de_ix u1 (de_ix u1 (de_var (pv 6)) (de_int)) (de_var (pv 10))) (dg_tup rfl (dgs_cons (dg_name nd rfl (by first | exact .inl rfl | exact .inr rfl) (fun _ _ => trivial)) (dgs_cons (dg_name nd rfl (by first | exact .inl rfl | exact .inr rfl) (fun _ _ => trivial)) (dgs_cons (dg_name nd rfl (by first | exact .inl rfl | exact .inr rfl) (fun _ _ => trivial)) (dgs_cons (dg_name nd rfl (by first | exact .inl rfl | exact .inr rfl) (fun _ _ => trivial)) (dgs_cons (dg_name nd rfl (by first | exact .inl rfl | exact .inr rfl) (fun _ _ => trivial)) (dgs_nil)))))))) (dss_one (ds_if (dt_cmp (dop_lt u0) (de_B (cb_len) (He.free_ok X Gn (c.fact 13 rfl)) (by first | rfl | decide +kernel) (da_cons (de_var (pv 16)) (da_nil))) (de_int) rfl) (dss_cons (ds_set (i := 19) nd rfl (by first | exact .inl rfl | exact .inr rfl) (de_call F__law_next (hr.mono (by first | decide | exact Nat.le_refl _)) (He.glo_ok X Gn (c.fact 3 rfl)) k__law_next b__law_next pass0 callAc0 (da_cons (de_var (pv 1)) (da_cons (de_int) (da_nil))))) (dss_cons (ds_set (i := 20) nd rfl (by first | exact .inl rfl | exact .inr rfl) (by exact de_Ty cb_tupleK (He.free_ok X Gn (c.fact 9 rfl)) (by rfl) (da_cons (de_B (cb_sortedSet rfl) (He.free_ok X Gn (c.fact 14 rfl)) (by first | rfl | decide +kernel) (da_cons (de_Ty (cb_set rfl) (He.free_ok X Gn (c.fact 15 rfl)) (by first | rfl | decide +kernel) (da_cons (de_bin dop_add (de_var (pv 16)) (de_tup (da_cons (de_var (pv 19)) (da_nil)))) (da_nil))) (da_nil))) (da_nil)))) (dss_cons (ds_set (i := 21) nd rfl (by first | exact .inl rfl | exact .inr rfl) (de_tup (da_cons (de_var (pv 4)) (da_cons (de_bin dop_add (de_bin dop_add (de_sl (de_ix u1 (de_var (pv 6)) (de_int)) (.none) (.some (de_var (pv 10)))) (de_tup (da_cons (de_tup (da_cons (de_var (pv 14)) (da_cons (de_var (pv 15)) (da_cons ((by exact de_kt (pv 20))) (da_cons (de_var (pv 17)) (da_cons (de_var (pv 18)) (da_nil))))))) (da_nil)))) (de_sl (de_ix u1 (de_var (pv 6)) (de_int)) (.some (de_bin dop_add (de_var (pv 10)) (de_int))) (.none))) (da_nil))))) (dss_cons (ds_if (dt_cmp (dop_ne u64) (de_lc (own := [("_law_j", 22)]) rfl nd (di_rng1 (He.free_ok X Gn (c.fact 1 rfl)) (de_var (pv 4))) (blk_ok (by rfl)) (fun z s H C cl fp => dg_name nd rfl (by first | exact .inl rfl | exact .inr rfl) (fun σ v => wipe_mem (by decide) σ (some v))) (fun z s H C cl fp => dts_one (dt_cmp (dop_lt u0) (de_ix u1 (de_call F_least_windows (hr.mono (by first | decide | exact Nat.le_refl _)) (He.glo_ok X Gn (c.fact 6 rfl)) k_least_windows b_least_windows pass0 callAc0 (da_cons (de_var (pv 21)) (da_nil))) (de_var (pv 22))) (de_ix u1 (de_var (pv 9)) (de_var (pv 22))) rfl)) (fun z s H C cl fp => de_var (pv 22))) (de_lst (da_nil)) rfl) (dss_one (ds_ret (de_bl))) (dss_nil)) (dss_one (ds_if (PW.pt (dw_and (dt_cmp (dop_gt u0) (de_B (cb_len) (He.free_ok X Gn (c.fact 13 rfl)) (by first | rfl | decide +kernel) (da_cons ((by exact de_kt (pv 20))) (da_nil))) (de_B (cb_len) (He.free_ok X Gn (c.fact 13 rfl)) (by first | rfl | decide +kernel) (da_cons (de_var (pv 16)) (da_nil))) rfl) (pw_and1 (dt_cmp (dop_ne u64) ((by exact de_dictAt (by rfl) u30 (He.free_ok X Gn (c.fact 16 rfl)) (by rfl) (da_cons (de_call F_drop_effects (hr.mono (by first | decide | exact Nat.le_refl _)) (He.glo_ok X Gn (c.fact 17 rfl)) k_drop_effects b_drop_effects pass0 callAc0 (da_cons (de_var (pv 21)) (da_nil))) (da_nil)) (de_tup (da_cons (de_var (pv 10)) (da_cons ((by exact de_idxK (pv 20) (da_cons (de_var (pv 19)) (da_nil)))) (da_nil)))))) (de_var (pv 9)) rfl)))) (dss_one (ds_ret (de_bl))) (dss_nil))))))) (dss_nil))))))))))))) (dss_nil)))))) (dss_one (ds_ret (de_bl))))
end HT
end S_G2_k16
section S_MmParts_k16
set_option linter.all false
set_option maxRecDepth 100000
/-! MmParts: the law's body in parts. -/
namespace G
open Dm
def kJ : Dm.TS := Dm.sSeq (Dm.sAsg (Dm.eCall sp__law_next (Dm.aCons (Dm.eVar 1) (Dm.aCons (Dm.eC (.int 100)) (Dm.aNil)))) (Dm.gN 19)) (Dm.sSeq (Dm.sAsg (Dm.eB Dm.bTupleK (Dm.aCons (Dm.eB Dm.bSortedSet (Dm.aCons (Dm.eB Dm.bSet (Dm.aCons (Dm.eBin Dm.oAdd (Dm.eVar 16) (Dm.eTup (Dm.aCons (Dm.eVar 19) (Dm.aNil)))) (Dm.aNil))) (Dm.aNil))) (Dm.aNil))) (Dm.gN 20)) (Dm.sSeq (Dm.sAsg (Dm.eTup (Dm.aCons (Dm.eVar 4) (Dm.aCons (Dm.eBin Dm.oAdd (Dm.eBin Dm.oAdd (Dm.eSl (Dm.eBin Dm.oIx (Dm.eVar 6) (Dm.eC (.int 1))) (none) (some (Dm.eVar 10))) (Dm.eTup (Dm.aCons (Dm.eTup (Dm.aCons (Dm.eVar 14) (Dm.aCons (Dm.eVar 15) (Dm.aCons (Dm.eKt 20) (Dm.aCons (Dm.eVar 17) (Dm.aCons (Dm.eVar 18) (Dm.aNil))))))) (Dm.aNil)))) (Dm.eSl (Dm.eBin Dm.oIx (Dm.eVar 6) (Dm.eC (.int 1))) (some (Dm.eBin Dm.oAdd (Dm.eVar 10) (Dm.eC (.int 1)))) (none))) (Dm.aNil)))) (Dm.gN 21)) (Dm.sSeq (Dm.sIf (Dm.tE (Dm.eBin Dm.oNe (Dm.eLc (Dm.iRng1 (Dm.eVar 4)) (Dm.gN 22) (Dm.tE (Dm.eBin Dm.oLt (Dm.eBin Dm.oIx (Dm.eCall sp_least_windows (Dm.aCons (Dm.eVar 21) (Dm.aNil))) (Dm.eVar 22)) (Dm.eBin Dm.oIx (Dm.eVar 9) (Dm.eVar 22)))) (Dm.eVar 22) [22]) (Dm.eLst (Dm.aNil)))) (Dm.sRet (Dm.eC (.bl false))) (Dm.sNext)) (Dm.sIf (Dm.tAnd (Dm.tE (Dm.eBin Dm.oGt (Dm.eB Dm.bLen (Dm.aCons (Dm.eKt 20) (Dm.aNil))) (Dm.eB Dm.bLen (Dm.aCons (Dm.eVar 16) (Dm.aNil))))) (Dm.tE (Dm.eBin Dm.oNe (Dm.eDictAt (Dm.eCall sp_drop_effects (Dm.aCons (Dm.eVar 21) (Dm.aNil))) (Dm.eTup (Dm.aCons (Dm.eVar 10) (Dm.aCons (Dm.eIdxK 20 (Dm.eVar 19)) (Dm.aNil))))) (Dm.eVar 9)))) (Dm.sRet (Dm.eC (.bl false))) (Dm.sNext)))))
def kT : Dm.TS := Dm.sSeq (Dm.sAsg (Dm.eCall sp__law_next (Dm.aCons (Dm.eVar 1) (Dm.aCons (Dm.eBin Dm.oAdd (Dm.eB Dm.bLen (Dm.aCons (Dm.eVar 5) (Dm.aNil))) (Dm.eC (.int 1))) (Dm.aNil)))) (Dm.gN 10)) (Dm.sSeq (Dm.sAsg (Dm.eBin Dm.oIx (Dm.eBin Dm.oIx (Dm.eVar 6) (Dm.eC (.int 1))) (Dm.eVar 10)) (Dm.gTup 5 (Dm.gCons (Dm.gN 14) (Dm.gCons (Dm.gN 15) (Dm.gCons (Dm.gN 16) (Dm.gCons (Dm.gN 17) (Dm.gCons (Dm.gN 18) (Dm.gNil)))))))) (Dm.sIf (Dm.tE (Dm.eBin Dm.oLt (Dm.eB Dm.bLen (Dm.aCons (Dm.eVar 16) (Dm.aNil))) (Dm.eC (.int 4)))) kJ Dm.sNext))
def kW (R : Dm.TS) : Dm.TS := Dm.sSeq (Dm.sAsg (Dm.eB Dm.bTuple (Dm.aCons (Dm.eLc (Dm.iRng1 (Dm.eVar 4)) (Dm.gN 10) (Dm.tYes) (Dm.eB Dm.bMax2 (Dm.aCons (Dm.eBin Dm.oIx (Dm.eVar 8) (Dm.eVar 10)) (Dm.aCons (Dm.eBin Dm.oIx (Dm.eVar 9) (Dm.eVar 10)) (Dm.aNil)))) [10]) (Dm.aNil))) (Dm.gN 13)) (Dm.sSeq (Dm.sIf (Dm.tE (Dm.eBin Dm.oLt (Dm.eCall sp_least_reuse_time (Dm.aCons (Dm.eVar 6) (Dm.aCons (Dm.eVar 13) (Dm.aNil)))) (Dm.eCall sp_least_reuse_time (Dm.aCons (Dm.eVar 3) (Dm.aCons (Dm.eVar 13) (Dm.aNil)))))) (Dm.sRet (Dm.eC (.bl false))) (Dm.sNext)) (Dm.sSeq (Dm.sIf (Dm.tOr (Dm.tE (Dm.eUn Dm.oIsNotN (Dm.eCall sp_double_act (Dm.aCons (Dm.eVar 3) (Dm.aCons (Dm.eVar 13) (Dm.aNil)))))) (Dm.tE (Dm.eUn Dm.oIsNotN (Dm.eCall sp_double_act (Dm.aCons (Dm.eVar 6) (Dm.aCons (Dm.eVar 13) (Dm.aNil))))))) (Dm.sRet (Dm.eC (.bl false))) (Dm.sNext)) (R)))
def kF (R : Dm.TS) : Dm.TS := Dm.sSeq (Dm.sFor (Dm.iSeq (Dm.eVar 7)) (Dm.gN 11) (Dm.sSeq (Dm.sAsg (Dm.eCall sp__law_pick (Dm.aCons (Dm.eVar 1) (Dm.aCons (Dm.eVar 7) (Dm.aNil)))) (Dm.gN 12)) (Dm.sIf (Dm.tE (Dm.eBin Dm.oLt (Dm.eCall sp_difference (Dm.aCons (Dm.eVar 6) (Dm.aCons (Dm.eVar 11) (Dm.aCons (Dm.eVar 12) (Dm.aNil))))) (Dm.eCall sp_difference (Dm.aCons (Dm.eVar 3) (Dm.aCons (Dm.eVar 11) (Dm.aCons (Dm.eVar 12) (Dm.aNil))))))) (Dm.sRet (Dm.eC (.bl false))) (Dm.sNext)))) (R)
def kH (R : Dm.TS) : Dm.TS := Dm.sSeq (Dm.sAsg (Dm.eTup (Dm.aCons (Dm.eVar 4) (Dm.aCons (Dm.eBin Dm.oAdd (Dm.eVar 5) (Dm.eTup (Dm.aCons (Dm.eCall sp__law_call (Dm.aCons (Dm.eVar 1) (Dm.aCons (Dm.eVar 4) (Dm.aCons (Dm.eC (.int 20)) (Dm.aNil))))) (Dm.aNil)))) (Dm.aNil)))) (Dm.gN 6)) (Dm.sSeq (Dm.sAsg (Dm.eCall sp_reachable_services (Dm.aCons (Dm.eVar 3) (Dm.aNil))) (Dm.gN 7)) (Dm.sSeq (Dm.sAsg (Dm.eTup (Dm.aCons (Dm.eCall sp_least_windows (Dm.aCons (Dm.eVar 3) (Dm.aNil))) (Dm.aCons (Dm.eCall sp_least_windows (Dm.aCons (Dm.eVar 6) (Dm.aNil))) (Dm.aNil)))) (Dm.gTup 2 (Dm.gCons (Dm.gN 8) (Dm.gCons (Dm.gN 9) (Dm.gNil))))) (Dm.sSeq (Dm.sIf (Dm.tE (Dm.eBin Dm.oNe (Dm.eLc (Dm.iRng1 (Dm.eVar 4)) (Dm.gN 10) (Dm.tAnd (Dm.tE (Dm.eBin Dm.oIn (Dm.eVar 10) (Dm.eVar 7))) (Dm.tE (Dm.eBin Dm.oLt (Dm.eBin Dm.oIx (Dm.eVar 9) (Dm.eVar 10)) (Dm.eBin Dm.oIx (Dm.eVar 8) (Dm.eVar 10))))) (Dm.eVar 10) [10]) (Dm.eLst (Dm.aNil)))) (Dm.sRet (Dm.eC (.bl false))) (Dm.sNext)) (R))))
def kB : Dm.TS := Dm.sSeq (Dm.sAsg (Dm.eCall sp__law_system (Dm.aCons (Dm.eVar 1) (Dm.aCons (Dm.eC (.int 6)) (Dm.aCons (Dm.eC (.int 9)) (Dm.aCons (Dm.eBin Dm.oIx (Dm.eLst (Dm.aCons (Dm.eC (.int 3)) (Dm.aCons (Dm.eC (.int 20)) (Dm.aNil)))) (Dm.eCall sp__law_next (Dm.aCons (Dm.eVar 1) (Dm.aCons (Dm.eC (.int 2)) (Dm.aNil))))) (Dm.aNil)))))) (Dm.gN 3)) (Dm.sSeq (Dm.sAsg (Dm.eVar 3) (Dm.gTup 2 (Dm.gCons (Dm.gN 4) (Dm.gCons (Dm.gN 5) (Dm.gNil))))) (Dm.sIf (Dm.tE (Dm.eBin Dm.oGt (Dm.eVar 4) (Dm.eC (.int 1)))) (kH (kF (kW kT))) Dm.sNext))
theorem law_parts : t_law = Dm.sSeq (Dm.sAsg (Dm.eCall sp__law_dice (Dm.aCons (Dm.eVar 0) (Dm.aNil))) (Dm.gN 1)) (Dm.sSeq (Dm.sFor (Dm.iRng1 (Dm.eC (.int 3))) (Dm.gN 2) kB) (Dm.sRet (Dm.eC (.bl true)))) := rfl
end G
end S_MmParts_k16
section S_Psys_k16
set_option linter.all false
set_option maxRecDepth 100000
namespace G
open Dm
theorem w_is_integer {v low high : Int} {h : Hd} {E : XP} {Q : QP} (q : Q (.bl (decide (low ≤ v ∧ v ≤ high))) h) : sp_is_integer [.int v, .int low, .int high] h E Q := by
  refine ⟨rfl, ?_⟩
  simp [t_is_integer, dstart, bIsi, isTy, tyNm, tyNms, oLe]
  by_cases h1 : low ≤ v
  · exact .inr ⟨h1, h, Sub.refl h, by simpa [h1] using q⟩
  · exact .inl ⟨by omega, h, Sub.refl h, by simpa [h1] using q⟩
theorem w_are_offsets {offs : List Int} {h : Hd} {E : XP} {Q : QP} (ne : offs ≠ []) (le : offs.length ≤ 4) (hup : offs.Pairwise (· < ·)) (rg : ∀ o ∈ offs, 0 ≤ o ∧ o ≤ 99) (q : Q (.bl true) h) : sp_are_offsets [.tup (offs.map D.int)] h E Q := by
  refine ⟨rfl, ?_⟩
  have h1 : 1 ≤ offs.length := by
    cases offs with
    | nil => exact absurd rfl ne
    | cons _ _ => simp
  simp [t_are_offsets, dstart, bIsi, isTy, tyNm, tyNms, bLen, sq, oLe]
  refine .inr ⟨by omega, .inr ⟨by omega, ?_⟩⟩
  refine lcL_pure (ok := fun _ => True) (fun _ => some (.bl true)) _ True.intro ?_ ?_
  · intro d hd Y N hy _
    obtain ⟨o, ho, rfl⟩ := List.mem_map.mp hd
    obtain ⟨r1, r2⟩ := rg o ho
    simp [wipe]
    refine w_is_integer ?_
    simpa [r1, r2] using hy (.bl true) rfl
  · refine ⟨_, _, rfl, boolsOf_true _, ?_⟩
    rw [all_true]
    refine .inr ⟨rfl, ?_⟩
    simp [eSl]
    cases offs with
    | nil => exact absurd rfl ne
    | cons x l =>
      rw [List.map_cons, cut_tail]
      refine lcL_pure (ok := fun _ => True) (fun _ => some (.bl true)) _ True.intro ?_ ?_
      · intro d hd Y N hy _
        obtain ⟨a, b, rfl, hab⟩ := zip_up x l hup d (by simpa using hd)
        simp [oLt, wipe]
        simpa [hab] using hy (.bl true) rfl
      · refine ⟨_, _, rfl, boolsOf_true _, ?_⟩
        rw [all_true]
        exact ⟨h, Sub.refl h, q⟩
theorem w_is_call {n M : Int} {k : Call} {h : Hd} {E : XP} {Q : QP} (ok : k.Ok n M) (hM : M ≤ 99) (q : Q (.bl true) h) : sp_is_call [.int n, k.d] h E Q := by
  refine ⟨rfl, ?_⟩
  obtain ⟨c0, ct, tn, ne, le, hup, rg, lo0, lh, hM'⟩ := ok
  simp [t_is_call, dstart, bIsi, isTy, tyNm, tyNms, bLen, sq, oNe, Call.d, vw, plain, eqv, oSub, oAdd]
  refine w_is_integer (.inr ⟨by simp; omega, ?_⟩)
  refine w_is_integer (.inr ⟨by simp; omega, ?_⟩)
  refine w_are_offsets ne le hup (fun o ho => ⟨(rg o ho).1, by have := (rg o ho).2; omega⟩) (.inr ⟨rfl, ?_⟩)
  refine w_is_integer (.inr ⟨by simp; omega, ?_⟩)
  refine w_is_integer ⟨h, Sub.refl h, ?_⟩
  have e : decide (k.lo ≤ k.hi ∧ k.hi ≤ 99) = true := by simp; omega
  rw [e]
  exact q
theorem w_check_system {n S C M : Int} {cs : List Call} {h : Hd} {E : XP} {Q : QP} (ok : SysOk S C M n cs) (hS : S ≤ 8) (hC : C ≤ 20) (hM : M ≤ 99) (q : Q .non h) : sp_check_system [sysD n cs] h E Q := by
  refine ⟨rfl, ?_⟩
  obtain ⟨n1, nS, len, hcs⟩ := ok
  simp [t_check_system, dstart, sysD, bIsi, isTy, tyNm, tyNms, bLen, sq, oNe, vw, plain, eqv]
  refine w_is_integer ⟨by simp; omega, ?_⟩
  refine forL_all (ok := fun _ => True) (fun s => ∃ a b, s = [some (.tup [.int n, .tup (cs.map Call.d)]), some (.int n), some (.tup (cs.map Call.d)), a, b]) True.intro ?_ ⟨none, none, rfl⟩ ?_
  · rintro d hd s K ⟨a, b, rfl⟩ hK
    obtain ⟨j, x, hj, rfl⟩ := enum_mem _ _ _ hd
    rw [List.getElem?_map] at hj
    cases hk : cs[j]? with
    | none => simp [hk] at hj
    | some k =>
      simp [hk] at hj
      subst hj
      have hjl : j < cs.length := (List.getElem?_eq_some_iff.mp hk).1
      simp [oEq, vw, plain, eqv]
      refine ⟨by omega, w_is_call (hcs k (List.mem_of_getElem? hk)) hM ⟨rfl, hK _ ⟨_, _, rfl⟩⟩⟩
  · rintro s ⟨a, b, rfl⟩
    exact ⟨h, Sub.refl h, q⟩
end G
end S_Psys_k16
section S_PT3
set_option linter.all false
set_option maxRecDepth 100000
namespace G
open Dm
/-- what stands at a pair of steps -/
def StepOk (cs : List Call) (Fs : Int → Int → Option D) (a b : Int) : Prop := ∃ m, (b < a ∧ Late cs a b m ∧ Fs a b = some (msgL m)) ∨ (a < b ∧ Early cs a b m ∧ Fs a b = some (msgE m))
structure TI (cs : List Call) (F Fs : Int → Int → Option D) (P : Int → Int → Prop) : Prop where
  f : ∀ a b, P a b → F a b = some (.int (gd cs a b))
  fn : ∀ a b, ¬ (Reach cs a ∧ Reach cs b) → F a b = none
  s : ∀ a b, P a b → a ≠ b → StepOk cs Fs a b
theorem TI.putZ {cs : List Call} {F Fs : Int → Int → Option D} {P : Int → Int → Prop} {a : Int} (t : TI cs F Fs P) (ra : Reach cs a) : TI cs (up2 F a a (.int 0)) Fs (fun x y => P x y ∨ (x = a ∧ y = a)) := by
  refine ⟨fun x y h => ?_, fun x y h => ?_, fun x y h hne => ?_⟩
  · unfold up2
    by_cases e : x = a ∧ y = a
    · rw [if_pos e, e.1, e.2, gd_self]
    · rw [if_neg e]
      exact t.f x y (h.resolve_right e)
  · unfold up2
    rw [if_neg (fun e => h ⟨by rw [e.1]; exact ra, by rw [e.2]; exact ra⟩)]
    exact t.fn x y h
  · rcases h with h | h
    · exact t.s x y h hne
    · exact absurd (h.1.trans h.2.symm) hne
theorem TI.put {cs : List Call} {F Fs : Int → Int → Option D} {P : Int → Int → Prop} {a b : Int} {v : D} (t : TI cs F Fs P) (ra : Reach cs a) (rb : Reach cs b) (st : StepOk cs (up2 Fs a b v) a b) : TI cs (up2 F a b (.int (gd cs a b))) (up2 Fs a b v) (fun x y => P x y ∨ (x = a ∧ y = b)) := by
  refine ⟨fun x y h => ?_, fun x y h => ?_, fun x y h hne => ?_⟩
  · unfold up2
    by_cases e : x = a ∧ y = b
    · rw [if_pos e, e.1, e.2]
    · rw [if_neg e]
      exact t.f x y (h.resolve_right e)
  · unfold up2
    rw [if_neg (fun e => h ⟨by rw [e.1]; exact ra, by rw [e.2]; exact rb⟩)]
    exact t.fn x y h
  · by_cases e : x = a ∧ y = b
    · obtain ⟨rfl, rfl⟩ := e
      exact st
    · obtain ⟨m, h1⟩ := t.s x y (h.resolve_right e) hne
      refine ⟨m, ?_⟩
      have e2 : up2 Fs a b v x y = Fs x y := by unfold up2; rw [if_neg e]
      rw [e2]
      exact h1
theorem TI.imp {cs : List Call} {F Fs : Int → Int → Option D} {P P' : Int → Int → Prop} (t : TI cs F Fs P) (h : ∀ a b, P' a b → P a b) : TI cs F Fs P' :=
  ⟨fun a b x => t.f a b (h a b x), t.fn, fun a b x => t.s a b (h a b x)⟩
theorem filter_lt {dn rs : List Int} {x : Int} (h : (dn ++ x :: rs).Pairwise (· < ·)) : (dn ++ x :: rs).filter (fun y => decide (y < x)) = dn := by
  rw [List.pairwise_append] at h
  obtain ⟨h1, h2, h3⟩ := h
  rw [List.pairwise_cons] at h2
  rw [List.filter_append]
  have e1 : dn.filter (fun y => decide (y < x)) = dn := List.filter_eq_self.mpr fun y hy => by simpa using h3 y hy x List.mem_cons_self
  have e2 : (x :: rs).filter (fun y => decide (y < x)) = [] := by
    rw [List.filter_eq_nil_iff]
    intro y hy
    rcases List.mem_cons.mp hy with rfl | hy
    · simp
    · have := h2.1 y hy
      simp; omega
  rw [e1, e2, List.append_nil]
def ltF (x : Int) : D → Option D
  | .int y => if y < x then some (.int y) else none
  | _ => none
theorem ltF_eq (x : Int) : ∀ l : List Int, (l.map D.int).filterMap (ltF x) = (l.filter fun y => decide (y < x)).map D.int
  | [] => rfl
  | y :: l => by
    have ih := ltF_eq x l
    rw [List.map_cons, List.filterMap_cons, List.filter_cons]
    by_cases h : y < x
    · simp only [ltF, h, if_true, decide_true, List.map_cons, ih]
    · simp only [ltF, h, if_false, decide_false, ih, Bool.false_eq_true]
/-- a whole table -/
structure TabAt (n : Int) (cs : List Call) (h : Hd) (p pg ps : Nat) : Prop where
  ob : h p = some (tabF n cs pg ps)
  g : ∃ F Fs, DctAt h pg 1000 F ∧ DctAt h ps 1000 Fs ∧ TI cs F Fs (fun a b => Reach cs a ∧ Reach cs b)
  n1 : p ≠ pg
  n2 : p ≠ ps
  n3 : pg ≠ ps
theorem TabAt.get {n : Int} {cs : List Call} {h : Hd} {p pg ps : Nat} {a b : Int} {Q : QP} (t : TabAt n cs h p pg ps) (ra : Reach cs a) (rb : Reach cs b) : oIx (.ref pg) (.tup [.int a, .int b]) h Q ↔ Q (.int (gd cs a b)) h := by
  obtain ⟨F, Fs, d1, d2, ti⟩ := t.g
  exact d1.get (ti.f a b ⟨ra, rb⟩)
theorem TabAt.step {n : Int} {cs : List Call} {h : Hd} {p pg ps : Nat} {a b : Int} (t : TabAt n cs h p pg ps) (ra : Reach cs a) (rb : Reach cs b) (ne : a ≠ b) : ∃ m, ((b < a ∧ Late cs a b m ∧ ∀ Q : QP, (oIx (.ref ps) (.tup [.int a, .int b]) h Q ↔ Q (msgL m) h)) ∨ (a < b ∧ Early cs a b m ∧ ∀ Q : QP, (oIx (.ref ps) (.tup [.int a, .int b]) h Q ↔ Q (msgE m) h))) := by
  obtain ⟨F, Fs, d1, d2, ti⟩ := t.g
  obtain ⟨m, h | h⟩ := ti.s a b ⟨ra, rb⟩ ne
  · exact ⟨m, .inl ⟨h.1, h.2.1, fun Q => d2.get h.2.2⟩⟩
  · exact ⟨m, .inr ⟨h.1, h.2.1, fun Q => d2.get h.2.2⟩⟩
end G
end S_PT3
section S_PT4
set_option linter.all false
set_option maxRecDepth 100000
/-! PT4: schedules in which a difference is attained. -/
namespace G
open Dm
abbrev Msg := Bool × (Nat × Call)
def Msg.ent (m : Msg) : Ent := if m.1 = true then ⟨0, 0, m.2.1, m.2.2.offs.length - 1, m.2.2.hi⟩ else ⟨0, 0, m.2.1, 0, m.2.2.lo⟩
def Msg.add (m : Msg) : Int := if m.1 = true then m.2.2.last + m.2.2.hi else m.2.2.first + m.2.2.lo
def Msg.d (m : Msg) : D := if m.1 = true then msgL m.2 else msgE m.2
inductive MF (cs : List Call) : Int → Int → List Msg → Prop where
  | done : MF cs 0 0 []
  | back {a : Int} {m : Nat × Call} {l : List Msg} : a ≠ 0 → m ∈ into cs a → MF cs m.2.c m.2.c l → MF cs a a ((true, m) :: l)
  | lt {a b : Int} {m : Nat × Call} {l : List Msg} : b < a → Late cs a b m → MF cs m.2.c b l → MF cs a b ((true, m) :: l)
  | el {a b : Int} {m : Nat × Call} {l : List Msg} : a < b → Early cs a b m → MF cs a m.2.c l → MF cs a b ((false, m) :: l)
/-- a list of messages of which each one's caller is reached by a later one -/
structure Tree (cs : List Call) (l : List Msg) : Prop where
  at_ : ∀ m ∈ l, cs[m.2.1]? = some m.2.2
  dec : l.Pairwise fun m m' => m'.2.2.t < m.2.2.t
  par : ∀ m ∈ l, m.2.2.c = 0 ∨ ∃ m' ∈ l, m'.2.2.t = m.2.2.c
theorem MF.tree {n S C M : Int} {cs : List Call} (sys : SysOk S C M n cs) {a b : Int} {l : List Msg} (h : MF cs a b l) : Tree cs l ∧ (∀ m ∈ l, m.2.2.t ≤ max a b) ∧ (a = 0 ∨ ∃ m ∈ l, m.2.2.t = a) ∧ (b = 0 ∨ ∃ m ∈ l, m.2.2.t = b) ∧ 0 ≤ a ∧ 0 ≤ b := by
  induction h with
  | done => exact ⟨⟨fun m hm => (by cases hm), .nil, fun m hm => (by cases hm)⟩, fun m hm => (by cases hm), .inl rfl, .inl rfl, by omega, by omega⟩
  | @back a m l ha hm _ ih =>
    obtain ⟨t, h1, h2, h3, h4, h5⟩ := ih
    obtain ⟨m1, m2, m3⟩ := into_mem.mp hm
    have ok := sys.cs m.2 (List.mem_of_getElem? m1)
    have := ok.ct
    refine ⟨⟨fun x hx => ?_, ?_, fun x hx => ?_⟩, fun x hx => ?_, .inr ⟨_, List.mem_cons_self, m2⟩, .inr ⟨_, List.mem_cons_self, m2⟩, by omega, by omega⟩
    · rcases List.mem_cons.mp hx with rfl | hx
      · exact m1
      · exact t.at_ x hx
    · rw [List.pairwise_cons]
      exact ⟨fun x hx => by have := h1 x hx; simp; omega, t.dec⟩
    · rcases List.mem_cons.mp hx with rfl | hx
      · rcases h2 with h2 | ⟨y, hy, e⟩
        · exact .inl h2
        · exact .inr ⟨y, List.mem_cons_of_mem _ hy, e⟩
      · rcases t.par x hx with z | ⟨y, hy, e⟩
        · exact .inl z
        · exact .inr ⟨y, List.mem_cons_of_mem _ hy, e⟩
    · rcases List.mem_cons.mp hx with rfl | hx
      · simp; omega
      · have := h1 x hx; omega
  | @lt a b m l hab hl _ ih =>
    obtain ⟨t, h1, h2, h3, h4, h5⟩ := ih
    obtain ⟨m1, m2, m3⟩ := into_mem.mp hl.mem
    have ok := sys.cs m.2 (List.mem_of_getElem? m1)
    have := ok.ct
    refine ⟨⟨fun x hx => ?_, ?_, fun x hx => ?_⟩, fun x hx => ?_, .inr ⟨_, List.mem_cons_self, m2⟩, ?_, by omega, by omega⟩
    · rcases List.mem_cons.mp hx with rfl | hx
      · exact m1
      · exact t.at_ x hx
    · rw [List.pairwise_cons]
      exact ⟨fun x hx => by have := h1 x hx; simp; omega, t.dec⟩
    · rcases List.mem_cons.mp hx with rfl | hx
      · rcases h2 with h2 | ⟨y, hy, e⟩
        · exact .inl h2
        · exact .inr ⟨y, List.mem_cons_of_mem _ hy, e⟩
      · rcases t.par x hx with z | ⟨y, hy, e⟩
        · exact .inl z
        · exact .inr ⟨y, List.mem_cons_of_mem _ hy, e⟩
    · rcases List.mem_cons.mp hx with rfl | hx
      · simp; omega
      · have := h1 x hx; omega
    · rcases h3 with h3 | ⟨y, hy, e⟩
      · exact .inl h3
      · exact .inr ⟨y, List.mem_cons_of_mem _ hy, e⟩
  | @el a b m l hab hl _ ih =>
    obtain ⟨t, h1, h2, h3, h4, h5⟩ := ih
    obtain ⟨m1, m2, m3⟩ := into_mem.mp hl.mem
    have ok := sys.cs m.2 (List.mem_of_getElem? m1)
    have := ok.ct
    refine ⟨⟨fun x hx => ?_, ?_, fun x hx => ?_⟩, fun x hx => ?_, ?_, .inr ⟨_, List.mem_cons_self, m2⟩, by omega, by omega⟩
    · rcases List.mem_cons.mp hx with rfl | hx
      · exact m1
      · exact t.at_ x hx
    · rw [List.pairwise_cons]
      exact ⟨fun x hx => by have := h1 x hx; simp; omega, t.dec⟩
    · rcases List.mem_cons.mp hx with rfl | hx
      · rcases h3 with h2 | ⟨y, hy, e⟩
        · exact .inl h2
        · exact .inr ⟨y, List.mem_cons_of_mem _ hy, e⟩
      · rcases t.par x hx with z | ⟨y, hy, e⟩
        · exact .inl z
        · exact .inr ⟨y, List.mem_cons_of_mem _ hy, e⟩
    · rcases List.mem_cons.mp hx with rfl | hx
      · simp; omega
      · have := h1 x hx; omega
    · rcases h2 with h3 | ⟨y, hy, e⟩
      · exact .inl h3
      · exact .inr ⟨y, List.mem_cons_of_mem _ hy, e⟩
/-- the act times -/
def tm : List Msg → Int → Int
  | [], _ => 0
  | m :: l, s => if s = m.2.2.t then tm l m.2.2.c + m.add else tm l s
theorem tm_other : ∀ (l : List Msg) (s : Int), (∀ m ∈ l, m.2.2.t ≠ s) → tm l s = 0
  | [], _, _ => rfl
  | m :: l, s, h => by
    unfold tm
    rw [if_neg (fun e => h m List.mem_cons_self e.symm)]
    exact tm_other l s fun x hx => h x (List.mem_cons_of_mem _ hx)
theorem Tree.tm_eq {n S C M : Int} {cs : List Call} (sys : SysOk S C M n cs) : ∀ {l : List Msg}, (∀ m ∈ l, cs[m.2.1]? = some m.2.2) → (l.Pairwise fun m m' => m'.2.2.t < m.2.2.t) → ∀ m ∈ l, tm l m.2.2.t = tm l m.2.2.c + m.add
  | [], _, _, m, hm => by cases hm
  | x :: l, ha, hd, m, hm => by
    rw [List.pairwise_cons] at hd
    have hc : ∀ y ∈ x :: l, y.2.2.c < y.2.2.t := fun y hy => (sys.cs y.2.2 (List.mem_of_getElem? (ha y hy))).ct
    have hm0 := hc m hm
    rcases List.mem_cons.mp hm with rfl | hm
    · unfold tm
      rw [if_pos rfl, if_neg (by omega)]
    · have := hd.1 m hm
      have e1 : tm (x :: l) m.2.2.t = tm l m.2.2.t := by rw [tm, if_neg (by omega)]
      have e2 : tm (x :: l) m.2.2.c = tm l m.2.2.c := by rw [tm, if_neg (by omega)]
      rw [e1, e2]
      exact Tree.tm_eq sys (fun y hy => ha y (List.mem_cons_of_mem _ hy)) hd.2 m hm
theorem MF.diff {n S C M : Int} {cs : List Call} (sys : SysOk S C M n cs) {a b : Int} {l : List Msg} (h : MF cs a b l) : tm l a - tm l b = gd cs a b := by
  induction h with
  | done => rw [gd_self]; omega
  | back _ _ _ _ => rw [gd_self]; omega
  | @lt a b m l hab hl _ ih =>
    obtain ⟨m1, m2, m3⟩ := into_mem.mp hl.mem
    rw [tm, if_pos m2.symm, tm, if_neg (by simp [m2]; omega), hl.eq]
    simp only [Msg.add, if_true]
    omega
  | @el a b m l hab hl _ ih =>
    obtain ⟨m1, m2, m3⟩ := into_mem.mp hl.mem
    rw [tm, if_neg (by simp [m2]; omega), tm, if_pos m2.symm, hl.eq]
    simp only [Msg.add, Bool.false_eq_true, if_false]
    omega
end G
end S_PT4
section S_PT5
set_option linter.all false
set_option maxRecDepth 100000
/-! PT5: a tree of messages is played at its times. -/
namespace G
open Dm
structure TreeInv (l : List Msg) (st : Sim) : Prop where
  i1 : ∀ y ∈ st.pend, y.t = tm l y.s ∧ y.r = 0 ∧ (y.s = 0 ∨ ∃ m ∈ l, m.2.2.t = y.s ∧ st.acts m.2.2.c ≠ [])
  i2 : st.pend.Pairwise fun a b => a.s ≠ b.s
  i2' : ∀ y ∈ st.pend, st.acts y.s = []
  i3 : ∀ s, st.acts s = [] ∨ st.acts s = [(tm l s, 0)]
  i3' : ∀ s, st.acts s ≠ [] → s = 0 ∨ ∃ m ∈ l, m.2.2.t = s ∧ st.acts m.2.2.c ≠ []
  i4 : ∀ s : Int, (st.ev.filter fun e => decide (e.s = s) && e.act).map (·.t) = (st.acts s).map (·.1)
  i5 : (∃ y ∈ st.pend, y.s = 0) ∨ st.acts 0 ≠ []
  i6 : ∀ m ∈ l, st.acts m.2.2.c ≠ [] → st.acts m.2.2.t ≠ [] ∨ ∃ y ∈ st.pend, y.s = m.2.2.t
theorem Tree.inj {cs : List Call} {l : List Msg} (t : Tree cs l) {m m' : Msg} (h : m ∈ l) (h' : m' ∈ l) (e : m.2.2.t = m'.2.2.t) : m = m' := by
  have pw := List.pairwise_iff_getElem.mp t.dec
  obtain ⟨i, hi, rfl⟩ := List.mem_iff_getElem.mp h
  obtain ⟨j, hj, rfl⟩ := List.mem_iff_getElem.mp h'
  rcases Nat.lt_trichotomy i j with c | c | c
  · have := pw i j hi hj c; omega
  · subst c; rfl
  · have := pw j i hj hi c; omega
theorem ent_add {n S C M : Int} {cs : List Call} (sys : SysOk S C M n cs) {m : Msg} (h : cs[m.2.1]? = some m.2.2) (x : Arr) : arr1 cs x m.ent = ⟨x.t + m.add, m.2.2.t, x.r, 0, m.2.1, m.ent.j⟩ := by
  have ok := sys.cs m.2.2 (List.mem_of_getElem? h)
  have ne := ok.ne
  have hl : 0 < m.2.2.offs.length := List.length_pos_iff.mpr ne
  unfold arr1 Msg.ent Msg.add
  by_cases b : m.1 = true
  · have e1 : m.2.2.offs[m.2.2.offs.length - 1]? = some m.2.2.last := by
      unfold Call.last
      rw [← List.getLast?_eq_getElem?, List.getLast?_eq_some_getLast ne]
      rfl
    simp [b, h, e1]
    omega
  · have e1 : m.2.2.offs[0]? = some m.2.2.first := by
      unfold Call.first
      cases q : m.2.2.offs with
      | nil => exact absurd q ne
      | cons o os => rfl
    simp [b, h, e1]
    omega
theorem ent_ak (m : Msg) : m.ent.r = 0 ∧ m.ent.a = 0 ∧ m.ent.k = m.2.1 := by
  unfold Msg.ent
  split <;> exact ⟨rfl, rfl, rfl⟩
theorem pw_rest {l : List Arr} (x : Arr) (h : l.Pairwise fun a b => a.s ≠ b.s) : (l.filter fun y => decide (y ≠ x)).Pairwise fun a b => a.s ≠ b.s := h.filter _
theorem pw_ne {l : List Arr} (h : l.Pairwise fun a b => a.s ≠ b.s) {x y : Arr} (hx : x ∈ l) (hy : y ∈ l) (ne : y ≠ x) : y.s ≠ x.s := by
  have pw := List.pairwise_iff_getElem.mp h
  obtain ⟨i, hi, rfl⟩ := List.mem_iff_getElem.mp hx
  obtain ⟨j, hj, rfl⟩ := List.mem_iff_getElem.mp hy
  rcases Nat.lt_trichotomy i j with c | c | c
  · exact fun e => pw i j hi hj c e.symm
  · subst c; exact absurd rfl ne
  · exact pw j i hj hi c
theorem tree_step {n m0 S C M : Int} {cs : List Call} {ws : Int → Int} {es : List Ent} {l : List Msg} {st : Sim} {x : Arr} (sys : SysOk S C M n cs) (t : Tree cs l) (sch : SchOk n m0 cs es) (hes : ∀ e, e ∈ es ↔ ∃ m ∈ l, e = m.ent) (I : TreeInv l st) (hx : x ∈ st.pend) : TreeInv l (st.step cs ws es x) := by
  have a0 := I.i2' x hx
  obtain ⟨xt, xr, xp⟩ := I.i1 x hx
  have hq : st.quiet ws x = false := by unfold Sim.quiet Sim.memo; rw [a0]; rfl
  have hc : st.cnt x.s x.r = 0 := by unfold Sim.cnt; rw [a0]; rfl
  have es1 : st.step cs ws es x = ⟨st.rest x ++ st.news cs es x, st.ev ++ [⟨x.t, x.s, x.r, true⟩], setA st.acts x.s (st.acts x.s ++ [(x.t, x.r)])⟩ := by unfold Sim.step; rw [if_neg (by rw [hq]; simp)]
  have ax : ∀ s, (st.step cs ws es x).acts s = if s = x.s then [(tm l x.s, 0)] else st.acts s := fun s => by
    rw [es1]
    simp only [setA, a0, List.nil_append, xt, xr]
  have amono : ∀ s, st.acts s ≠ [] → (st.step cs ws es x).acts s ≠ [] := fun s h => by
    rw [ax]; split
    · simp
    · exact h
  have axx : (st.step cs ws es x).acts x.s ≠ [] := by rw [ax, if_pos rfl]; simp
  have nw : ∀ y ∈ st.news cs es x, ∃ m ∈ l, m.2.2.c = x.s ∧ y = arr1 cs x m.ent ∧ y.s = m.2.2.t ∧ y.t = tm l m.2.2.t ∧ y.r = 0 := fun y hy => by
    obtain ⟨e, he, h1, h2, h3, rfl⟩ := news_mem hy
    obtain ⟨m, hm, rfl⟩ := (hes e).mp he
    have hat := t.at_ m hm
    have hcl : m.2.2.c = x.s := by
      unfold caller at h3
      rw [(ent_ak m).2.2, hat] at h3
      simpa using h3
    refine ⟨m, hm, hcl, rfl, ?_, ?_, ?_⟩
    · rw [ent_add sys hat]
    · rw [ent_add sys hat]
      simp only
      rw [Tree.tm_eq sys t.at_ t.dec m hm, xt, hcl]
    · rw [ent_add sys hat]; exact xr
  have nt : ∀ m ∈ l, m.2.2.c = x.s → st.acts m.2.2.t = [] ∧ ∀ y ∈ st.pend, y.s ≠ m.2.2.t := fun m hm hcl => by
    have ok := sys.cs m.2.2 (List.mem_of_getElem? (t.at_ m hm))
    have c1 := ok.ct
    have c2 := ok.c0
    constructor
    · cases q : st.acts m.2.2.t with
      | nil => rfl
      | cons z zs =>
        exfalso
        rcases I.i3' _ (by rw [q]; simp) with h | ⟨m', hm', e, h⟩
        · omega
        · have := t.inj hm' hm e
          subst this
          rw [hcl] at h
          exact h a0
    · intro y hy e
      obtain ⟨_, _, h | ⟨m', hm', e', h⟩⟩ := I.i1 y hy
      · omega
      · have := t.inj hm' hm (e'.trans e)
        subst this
        rw [hcl] at h
        exact h a0
  have pe : (st.step cs ws es x).pend = st.rest x ++ st.news cs es x := by rw [es1]
  refine ⟨?_, ?_, ?_, ?_, ?_, ?_, ?_, ?_⟩
  · intro y hy
    rw [pe] at hy
    rcases List.mem_append.mp hy with z | z
    · obtain ⟨h1, h2, h3⟩ := I.i1 y (rest_mem z).1
      refine ⟨h1, h2, ?_⟩
      rcases h3 with h3 | ⟨m, hm, e, h3⟩
      · exact .inl h3
      · exact .inr ⟨m, hm, e, amono _ h3⟩
    · obtain ⟨m, hm, h1, h2, h3, h4, h5⟩ := nw y z
      exact ⟨by rw [h3]; exact h4, h5, .inr ⟨m, hm, h3.symm, by rw [h1]; exact axx⟩⟩
  · rw [pe, List.pairwise_append]
    refine ⟨pw_rest x I.i2, ?_, ?_⟩
    · unfold Sim.news
      rw [List.pairwise_map]
      have nd := (nodup_of_map _ sch.nd).filter (hit cs x (st.cnt x.s x.r))
      refine List.Pairwise.imp_of_mem ?_ nd
      intro e f he hf hne hs
      obtain ⟨m, hm, rfl⟩ := (hes e).mp (List.mem_filter.mp he).1
      obtain ⟨m', hm', rfl⟩ := (hes f).mp (List.mem_filter.mp hf).1
      rw [ent_add sys (t.at_ m hm), ent_add sys (t.at_ m' hm')] at hs
      have := t.inj hm hm' hs
      subst this
      exact hne rfl
    · intro a ha b hb
      obtain ⟨m, hm, h1, h2, h3, _⟩ := nw b hb
      rw [h3]
      exact (nt m hm h1).2 a (rest_mem ha).1
  · intro y hy
    rw [pe] at hy
    rcases List.mem_append.mp hy with z | z
    · obtain ⟨z1, z2⟩ := rest_mem z
      rw [ax, if_neg (pw_ne I.i2 hx z1 z2)]
      exact I.i2' y z1
    · obtain ⟨m, hm, h1, h2, h3, _⟩ := nw y z
      have ok := sys.cs m.2.2 (List.mem_of_getElem? (t.at_ m hm))
      have c1 := ok.ct
      rw [ax, h3, if_neg (by omega)]
      exact (nt m hm h1).1
  · intro s
    rw [ax]
    split
    · rename_i e; subst e; exact .inr rfl
    · exact I.i3 s
  · intro s hs
    rw [ax] at hs
    by_cases e : s = x.s
    · subst e
      rcases xp with h | ⟨m, hm, e, h⟩
      · exact .inl h
      · exact .inr ⟨m, hm, e, amono _ h⟩
    · rw [if_neg e] at hs
      rcases I.i3' s hs with h | ⟨m, hm, e, h⟩
      · exact .inl h
      · exact .inr ⟨m, hm, e, amono _ h⟩
  · intro s
    rw [ax]
    have e1 : (st.step cs ws es x).ev = st.ev ++ [⟨x.t, x.s, x.r, true⟩] := by rw [es1]
    rw [e1, List.filter_append, List.map_append, I.i4 s]
    by_cases e : s = x.s
    · subst e
      rw [if_pos rfl, a0]
      simp [xt]
    · have e' : ¬ x.s = s := fun z => e z.symm
      rw [if_neg e]
      simp [e']
  · rcases I.i5 with ⟨y, hy, e⟩ | h
    · by_cases z : y = x
      · subst z
        right
        rw [← e]; exact axx
      · left
        refine ⟨y, ?_, e⟩
        rw [pe]
        exact List.mem_append.mpr (.inl (List.mem_filter.mpr ⟨hy, by simpa using z⟩))
    · exact .inr (amono _ h)
  · intro m hm h
    rw [ax] at h
    by_cases e : m.2.2.c = x.s
    · right
      have hat := t.at_ m hm
      refine ⟨arr1 cs x m.ent, ?_, by rw [ent_add sys hat]⟩
      rw [pe]
      refine List.mem_append.mpr (.inr ?_)
      unfold Sim.news
      refine List.mem_map.mpr ⟨m.ent, List.mem_filter.mpr ⟨(hes _).mpr ⟨m, hm, rfl⟩, ?_⟩, rfl⟩
      unfold hit caller
      rw [(ent_ak m).1, (ent_ak m).2.1, (ent_ak m).2.2, hat, hc]
      simp [xr, e]
    · rw [if_neg e] at h
      rcases I.i6 m hm h with h | ⟨y, hy, e2⟩
      · exact .inl (amono _ h)
      · by_cases z : y = x
        · subst z
          left
          rw [← e2]; exact axx
        · right
          refine ⟨y, ?_, e2⟩
          rw [pe]
          exact List.mem_append.mpr (.inl (List.mem_filter.mpr ⟨hy, by simpa using z⟩))
theorem tree_run {n m0 S C M : Int} {cs : List Call} {ws : Int → Int} {es : List Ent} {l : List Msg} {a b : Sim} (sys : SysOk S C M n cs) (t : Tree cs l) (sch : SchOk n m0 cs es) (hes : ∀ e, e ∈ es ↔ ∃ m ∈ l, e = m.ent) (r : Run cs ws es a b) : TreeInv l a → TreeInv l b ∧ b.pend = [] := by
  induction r with
  | done e => exact fun I => ⟨I, e⟩
  | step hx _ ih => exact fun I => ih (tree_step sys t sch hes I hx.mem)
theorem tm_zero {n S C M : Int} {cs : List Call} (sys : SysOk S C M n cs) {l : List Msg} (t : Tree cs l) : tm l 0 = 0 := by
  refine tm_other l 0 fun m hm => ?_
  have ok := sys.cs m.2.2 (List.mem_of_getElem? (t.at_ m hm))
  have := ok.ct
  have := ok.c0
  omega
theorem tree0 {n S C M : Int} {cs : List Call} (sys : SysOk S C M n cs) {l : List Msg} (t : Tree cs l) : TreeInv l (sim0 [0]) := by
  refine ⟨fun y hy => ?_, by simp [sim0, arr0], fun _ _ => rfl, fun _ => .inl rfl, fun s h => absurd rfl h, fun _ => rfl, .inl ⟨⟨0, 0, 0, 0, -1, 0⟩, List.mem_cons_self, rfl⟩, fun m _ h => absurd rfl h⟩
  have : y = ⟨0, 0, 0, 0, -1, 0⟩ := List.mem_singleton.mp hy
  subst this
  exact ⟨(tm_zero sys t).symm, rfl, .inl rfl⟩
/-- each service of the tree acts once, at its time -/
theorem tree_acts {n m0 S C M : Int} {cs : List Call} {ws : Int → Int} {es : List Ent} {l : List Msg} {st : Sim} (sys : SysOk S C M n cs) (t : Tree cs l) (sch : SchOk n m0 cs es) (hes : ∀ e, e ∈ es ↔ ∃ m ∈ l, e = m.ent) (r : Run cs ws es (sim0 [0]) st) {s : Int} (hs : s = 0 ∨ ∃ m ∈ l, m.2.2.t = s) :
    (st.ev.filter fun e => decide (e.s = s) && e.act).map (·.t) = [tm l s] := by
  obtain ⟨I, hp⟩ := tree_run sys t sch hes r (tree0 sys t)
  have h0 : st.acts 0 ≠ [] := by
    rcases I.i5 with ⟨y, hy, _⟩ | h
    · rw [hp] at hy; cases hy
    · exact h
  have all : ∀ (k : Nat) (m : Msg), m ∈ l → m.2.2.t < k → st.acts m.2.2.t ≠ [] := by
    intro k
    induction k with
    | zero =>
      intro m hm hk
      have ok := sys.cs m.2.2 (List.mem_of_getElem? (t.at_ m hm))
      have := ok.ct
      have := ok.c0
      omega
    | succ k ih =>
      intro m hm hk
      have ok := sys.cs m.2.2 (List.mem_of_getElem? (t.at_ m hm))
      have := ok.ct
      have hc : st.acts m.2.2.c ≠ [] := by
        rcases t.par m hm with h | ⟨m', hm', e⟩
        · rw [h]; exact h0
        · rw [← e]; exact ih m' hm' (by omega)
      rcases I.i6 m hm hc with h | ⟨y, hy, _⟩
      · exact h
      · rw [hp] at hy; cases hy
  have hne : st.acts s ≠ [] := by
    rcases hs with rfl | ⟨m, hm, rfl⟩
    · exact h0
    · exact all (m.2.2.t.toNat + 1) m hm (by omega)
  rw [I.i4 s]
  rcases I.i3 s with h | h
  · exact absurd h hne
  · rw [h]; rfl
end G
end S_PT5
section S_PT6
set_option linter.all false
set_option maxRecDepth 100000
namespace G
open Dm
theorem Ent.d_inj {e f : Ent} (h : e.d = f.d) : e = f := by
  cases e; cases f
  simp [Ent.d] at h
  simp
  omega
def mk5 : Mk := .tup [.int, .int, .int, .int, .int]
theorem Ent.mk5 (e : Ent) : mkOk G.mk5 e.d = true := by simp [G.mk5, Ent.d, mkOk, mkOkL]
def entF : D → Option D
  | .tup [a, b, c] => some (.tup [.int 0, .int 0, a, b, c])
  | _ => none
theorem entF_d {m : Msg} (h : m.2.2.offs ≠ []) : entF m.d = some m.ent.d := by
  have hl : 0 < m.2.2.offs.length := List.length_pos_iff.mpr h
  have e : ((m.2.2.offs.length - 1 : Nat) : Int) = (m.2.2.offs.length : Int) - 1 := by omega
  unfold Msg.d Msg.ent
  split
  · simp [msgL, entF, Ent.d, e]
  · simp [msgE, entF, Ent.d]
theorem ents_d {l : List Msg} (h : ∀ m ∈ l, m.2.2.offs ≠ []) : (l.map Msg.d).filterMap entF = (l.map Msg.ent).map Ent.d := by
  induction l with
  | nil => rfl
  | cons m l ih =>
    rw [List.map_cons, List.filterMap_cons, entF_d (h m List.mem_cons_self)]
    simp only [List.map_cons]
    rw [ih fun x hx => h x (List.mem_cons_of_mem _ hx)]
/-- a schedule of one tree -/
theorem tree_sch {n S C M : Int} {cs : List Call} (sys : SysOk S C M n cs) (hM : M ≤ 99) {l : List Msg} (t : Tree cs l) {es : List Ent} (hp : es.Perm (l.map Msg.ent)) (hs : es.Pairwise fun e f => ltv f.d e.d = false) : SchOk n 1 cs es := by
  have hes : ∀ e, e ∈ es ↔ ∃ m ∈ l, e = m.ent := fun e => by
    rw [hp.mem_iff, List.mem_map]
    constructor
    · rintro ⟨m, hm, rfl⟩; exact ⟨m, hm, rfl⟩
    · rintro ⟨m, hm, rfl⟩; exact ⟨m, hm, rfl⟩
  have ndl : (l.map Msg.ent).Pairwise fun e f => e.k ≠ f.k := by
    rw [List.pairwise_map]
    refine t.dec.imp_of_mem ?_
    intro m m' hm hm' h e
    rw [(ent_ak m).2.2, (ent_ak m').2.2] at e
    have h1 := t.at_ m hm
    have h2 := t.at_ m' hm'
    rw [e, h2] at h1
    have h3 := congrArg Call.t (Option.some.inj h1)
    omega
  have nd : es.Pairwise fun e f => e.k ≠ f.k := (hp.pairwise_iff (fun h e => h e.symm)).mpr ndl
  have z : ∀ e ∈ es, e.r = 0 ∧ e.a = 0 := fun e he => by
    obtain ⟨m, _, rfl⟩ := (hes e).mp he
    exact ⟨(ent_ak m).1, (ent_ak m).2.1⟩
  refine ⟨fun e he => ?_, ?_, ?_, fun c hc => ?_⟩
  · obtain ⟨m, hm, rfl⟩ := (hes e).mp he
    have hat := t.at_ m hm
    have ok := sys.cs m.2.2 (List.mem_of_getElem? hat)
    have hl : 0 < m.2.2.offs.length := List.length_pos_iff.mpr ok.ne
    have l1 := ok.lh
    refine ⟨by rw [(ent_ak m).1]; omega, by rw [(ent_ak m).1]; omega, by rw [(ent_ak m).2.1]; omega, by rw [(ent_ak m).2.1]; omega, m.2.2, by rw [(ent_ak m).2.2]; exact hat, ?_⟩
    unfold Msg.ent
    split
    · simp; omega
    · simp; omega
  · refine (hs.and nd).imp_of_mem ?_
    intro e f he hf ⟨h1, h2⟩
    obtain ⟨e1, e2⟩ := z e he
    obtain ⟨f1, f2⟩ := z f hf
    refine lex_lt ?_
    unfold lex
    rw [e1, e2, f1, f2]
    simp only [Ent.d, ltv, ltvL, eqv_int, e1, e2, f1, f2] at h1
    have h3 : ¬ (f.k : Int) = e.k := by omega
    simp [h3] at h1
    omega
  · rw [List.Nodup, List.pairwise_map]
    refine nd.imp ?_
    intro e f h z
    simp at z
    exact h z.2.2.1
  · have z := sys.cs c hc
    exact ⟨z.c0, z.ct, z.tn, z.ne, z.le, z.up, fun o ho => by have := z.rg o ho; omega, z.lo0, z.lh, by have := z.hM; omega⟩
end G
end S_PT6
section S_PT7
set_option linter.all false
set_option maxRecDepth 100000
/-! PT7: pairs of messages, least windows. -/
namespace G
open Dm
structure Mg where
  c : Int
  f : Int
  l : Int
  k : Nat
  j : Nat
def Mg.id (m : Mg) : D := .tup [.int (m.k : Nat), .int (m.j : Nat)]
def Mg.d (m : Mg) : D := .tup [.int m.c, .int m.f, .int m.l, m.id]
def mgO (p : Nat × Call) : Nat → List Int → List Mg
  | _, [] => []
  | j, o :: os => ⟨p.2.c, o + p.2.lo, o + p.2.hi, p.1, j⟩ :: mgO p (j + 1) os
noncomputable def mgs (cs : List Call) (s : Int) : List Mg := (into cs s).flatMap fun p => mgO p 0 p.2.offs
structure Pr where
  sp : Int
  k : Nat
  j : Nat
  k2 : Nat
  j2 : Nat
def Pr.d (p : Pr) : D := .tup [.int p.sp, .tup [.int (p.k : Nat), .int (p.j : Nat)], .tup [.int (p.k2 : Nat), .int (p.j2 : Nat)]]
noncomputable def prB (cs : List Call) (a b : Mg) : Option Pr := if a.k = b.k ∧ a.j = b.j then none else some ⟨gd cs a.c b.c + a.l - b.f, a.k, a.j, b.k, b.j⟩
noncomputable def prs (cs : List Call) (s : Int) : List Pr := (mgs cs s).flatMap fun a => (mgs cs s).filterMap (prB cs a)
theorem mgO_mem {p : Nat × Call} {m : Mg} : ∀ (os : List Int) (j : Nat), m ∈ mgO p j os ↔ ∃ (i : Nat) (o : Int), os[i]? = some o ∧ m = ⟨p.2.c, o + p.2.lo, o + p.2.hi, p.1, j + i⟩
  | [], j => by simp [mgO]
  | o :: os, j => by
    unfold mgO
    rw [List.mem_cons, mgO_mem os (j + 1)]
    constructor
    · rintro (rfl | ⟨i, o', h1, rfl⟩)
      · exact ⟨0, o, rfl, rfl⟩
      · exact ⟨i + 1, o', by simpa using h1, by simp; omega⟩
    · rintro ⟨i, o', h1, rfl⟩
      cases i with
      | zero => left; simp at h1; subst h1; rfl
      | succ i => exact .inr ⟨i, o', by simpa using h1, by simp; omega⟩
theorem mgs_mem {cs : List Call} {s : Int} {m : Mg} : m ∈ mgs cs s ↔ ∃ (c : Call) (o : Int), cs[m.k]? = some c ∧ c.t = s ∧ Reach cs c.c ∧ c.offs[m.j]? = some o ∧ m.c = c.c ∧ m.f = o + c.lo ∧ m.l = o + c.hi := by
  unfold mgs
  rw [List.mem_flatMap]
  constructor
  · rintro ⟨p, hp, hm⟩
    obtain ⟨i, o, h1, rfl⟩ := (mgO_mem _ _).mp hm
    obtain ⟨m1, m2, m3⟩ := into_mem.mp hp
    exact ⟨p.2, o, m1, m2, m3, by simpa using h1, rfl, rfl, rfl⟩
  · rintro ⟨c, o, h1, h2, h3, h4, h5, h6, h7⟩
    refine ⟨(m.k, c), into_mem.mpr ⟨h1, h2, h3⟩, (mgO_mem _ _).mpr ⟨m.j, o, h4, ?_⟩⟩
    cases m
    simp at *
    simp [*]
theorem prs_mem {cs : List Call} {s : Int} {p : Pr} : p ∈ prs cs s ↔ ∃ a ∈ mgs cs s, ∃ b ∈ mgs cs s, prB cs a b = some p := by
  unfold prs
  rw [List.mem_flatMap]
  simp only [List.mem_filterMap]
theorem max_ex : ∀ {l : List Pr}, l ≠ [] → ∃ p ∈ l, ∀ q ∈ l, q.sp ≤ p.sp
  | [], h => absurd rfl h
  | [x], _ => ⟨x, by simp, fun q hq => by rw [List.mem_singleton.mp hq]; exact Int.le_refl _⟩
  | x :: y :: l, _ => by
    obtain ⟨p, hp, h⟩ := max_ex (l := y :: l) (by simp)
    by_cases e : p.sp ≤ x.sp
    · refine ⟨x, List.mem_cons_self, fun q hq => ?_⟩
      rcases List.mem_cons.mp hq with rfl | hq
      · exact Int.le_refl _
      · have := h q hq; omega
    · refine ⟨p, List.mem_cons_of_mem _ hp, fun q hq => ?_⟩
      rcases List.mem_cons.mp hq with rfl | hq
      · omega
      · exact h q hq
open Classical in
/-- the least window of a service -/
noncomputable def lwin (cs : List Call) (s : Int) : Int := if h : Reach cs s ∧ prs cs s ≠ [] then (choose (max_ex h.2)).sp else 0
theorem lwin_none {cs : List Call} {s : Int} (h : ¬ (Reach cs s ∧ prs cs s ≠ [])) : lwin cs s = 0 := by unfold lwin; rw [dif_neg h]
theorem lwin_some {cs : List Call} {s : Int} (h : Reach cs s ∧ prs cs s ≠ []) : ∃ p ∈ prs cs s, p.sp = lwin cs s ∧ ∀ q ∈ prs cs s, q.sp ≤ lwin cs s := by
  obtain ⟨h1, h2⟩ := Classical.choose_spec (max_ex h.2)
  refine ⟨_, h1, ?_, ?_⟩
  · unfold lwin; rw [dif_pos h]
  · unfold lwin; rw [dif_pos h]; exact h2
/-- widest -/
structure Wide (cs : List Call) (s : Int) (w : Pr) : Prop where
  mem : w ∈ prs cs s
  max : ∀ q ∈ prs cs s, q.sp ≤ w.sp
  min : ∀ q ∈ prs cs s, q.sp = w.sp → ltv q.d w.d = false
theorem Wide.eq {cs : List Call} {s : Int} {w : Pr} (h : Wide cs s w) (r : Reach cs s) : w.sp = lwin cs s := by
  obtain ⟨p, h1, h2, h3⟩ := lwin_some ⟨r, fun e => by have := h.mem; rw [e] at this; cases this⟩
  have := h.max p h1
  have := h3 w h.mem
  omega
def mkPr : Mk := .tup [.int, .tup [.int, .int], .tup [.int, .int]]
theorem Pr.mkOk (p : Pr) : Dm.mkOk mkPr p.d = true := by simp [mkPr, Pr.d, Dm.mkOk, mkOkL]
theorem plain_pr (p : Pr) : plain 49 p.d = true := by simp [Pr.d, plain, plainL]
def spF : D → Option D
  | .tup [a, _, _] => some a
  | _ => none
theorem spF_eq : ∀ l : List Pr, (l.map Pr.d).filterMap spF = (l.map (·.sp)).map D.int
  | [] => rfl
  | p :: l => by
    have ih := spF_eq l
    simp only [List.map_cons, List.filterMap_cons, Pr.d, spF] at ih ⊢
    rw [ih]
def eqF (m : Int) : D → Option D
  | .tup [.int a, b, c] => if a = m then some (.tup [.int a, b, c]) else none
  | _ => none
theorem eqF_eq (m : Int) : ∀ l : List Pr, (l.map Pr.d).filterMap (eqF m) = (l.filter fun p => decide (p.sp = m)).map Pr.d
  | [] => rfl
  | p :: l => by
    have ih := eqF_eq m l
    have e : eqF m p.d = if p.sp = m then some p.d else none := rfl
    rw [List.map_cons, List.filterMap_cons, List.filter_cons, e]
    by_cases h : p.sp = m
    · rw [if_pos h, if_pos (by simpa using h), List.map_cons, ih]
    · rw [if_neg h, if_neg (by simpa using h), ih]
theorem Pr.d_inj {p q : Pr} (h : p.d = q.d) : p = q := by
  cases p; cases q
  simp [Pr.d] at h
  simp
  omega
end G
end S_PT7
section S_PT8
set_option linter.all false
set_option maxRecDepth 100000
/-! PT8: no schedule of first acts exceeds the greatest differences. -/
namespace G
open Dm
/-- the first act's time -/
def Sim.ft (st : Sim) (s : Int) : Int := ((st.acts s).head?.map (·.1)).getD 0
/-- how a message's arrival stands to its caller's first act -/
def From (cs : List Call) (st : Sim) (s t : Int) : Prop := (s = 0 ∧ t = 0) ∨ ∃ (k : Nat) (c : Call) (o d : Int), cs[k]? = some c ∧ c.t = s ∧ st.acts c.c ≠ [] ∧ c.first ≤ o ∧ o ≤ c.last ∧ c.lo ≤ d ∧ d ≤ c.hi ∧ t = st.ft c.c + o + d
structure SndInv (cs : List Call) (st : Sim) : Prop where
  p : ∀ y ∈ st.pend, From cs st y.s y.t ∧ y.r = 0
  a : ∀ s, st.acts s ≠ [] → From cs st s (st.ft s)
  r : ∀ s, ∀ x ∈ st.acts s, x.2 = 0
  e : ∀ s : Int, (st.ev.filter fun e => decide (e.s = s) && e.act).map (·.t) = (st.acts s).map (·.1)
theorem first_le {n M : Int} {c : Call} (ok : c.Ok n M) {j : Nat} (hj : j < c.offs.length) : c.first ≤ c.offs[j] ∧ c.offs[j] ≤ c.last := by
  have pw := List.pairwise_iff_getElem.mp ok.up
  have h0 : 0 < c.offs.length := by omega
  have e1 : c.first = c.offs[0] := by
    unfold Call.first
    rw [List.head?_eq_getElem?, List.getElem?_eq_getElem h0]
    rfl
  have e2 : c.last = c.offs[c.offs.length - 1] := by
    unfold Call.last
    rw [List.getLast?_eq_getElem?, List.getElem?_eq_getElem (by omega)]
    rfl
  rw [e1, e2]
  constructor
  · by_cases h : j = 0
    · subst h; omega
    · exact Int.le_of_lt (pw 0 j h0 hj (by omega))
  · by_cases h : j = c.offs.length - 1
    · subst h; omega
    · exact Int.le_of_lt (pw j (c.offs.length - 1) hj (by omega) (by omega))
theorem From.mono {cs : List Call} {st st' : Sim} {s t : Int} (h : From cs st s t) (ne : ∀ s, st.acts s ≠ [] → st'.acts s ≠ [] ∧ st'.ft s = st.ft s) : From cs st' s t := by
  rcases h with h | ⟨k, c, o, d, h1, h2, h3, h4, h5, h6, h7, h8⟩
  · exact .inl h
  · obtain ⟨n1, n2⟩ := ne _ h3
    exact .inr ⟨k, c, o, d, h1, h2, n1, h4, h5, h6, h7, by rw [n2]; exact h8⟩
theorem snd_step {n m : Int} {cs : List Call} {ws : Int → Int} {es : List Ent} {st : Sim} {x : Arr} (sch : SchOk n m cs es) (z : ∀ e ∈ es, e.a = 0) (I : SndInv cs st) (hx : x ∈ st.pend) : SndInv cs (st.step cs ws es x) := by
  obtain ⟨xf, xr⟩ := I.p x hx
  unfold Sim.step
  split
  · refine ⟨fun y hy => I.p y (rest_mem hy).1, I.a, I.r, fun s => ?_⟩
    simp only [List.filter_append, List.map_append]
    rw [I.e s]
    simp
  · have amono : ∀ s, st.acts s ≠ [] → setA st.acts x.s (st.acts x.s ++ [(x.t, x.r)]) s ≠ [] ∧ Sim.ft ⟨st.rest x ++ st.news cs es x, st.ev ++ [⟨x.t, x.s, x.r, true⟩], setA st.acts x.s (st.acts x.s ++ [(x.t, x.r)])⟩ s = st.ft s := fun s h => by
      unfold setA Sim.ft
      by_cases e : s = x.s
      · subst e
        simp only [if_true]
        cases q : st.acts x.s with
        | nil => exact absurd q h
        | cons a l => simp
      · simp only [e, if_false]
        exact ⟨h, trivial⟩
    have accx : setA st.acts x.s (st.acts x.s ++ [(x.t, x.r)]) x.s ≠ [] := by simp [setA]
    refine ⟨fun y hy => ?_, fun s hs => ?_, fun s y hy => ?_, fun s => ?_⟩
    · rcases List.mem_append.mp hy with w | w
      · obtain ⟨h1, h2⟩ := I.p y (rest_mem w).1
        exact ⟨h1.mono amono, h2⟩
      · obtain ⟨f, hf, h1, h2, h3, rfl⟩ := news_mem w
        obtain ⟨_, _, _, _, c, hc, hj, hl, hh⟩ := sch.ok f hf
        have ok := sch.cok c (List.mem_of_getElem? hc)
        have h0 := z f hf
        have cnt0 : st.cnt x.s x.r = 0 := by omega
        have ac0 : st.acts x.s = [] := by
          cases q : st.acts x.s with
          | nil => rfl
          | cons a l =>
            exfalso
            have ha : a ∈ st.acts x.s := by rw [q]; exact List.mem_cons_self
            have := I.r x.s a ha
            have hpos : 0 < st.cnt x.s x.r := by
              unfold Sim.cnt
              rw [List.countP_pos_iff]
              exact ⟨a, ha, by simp [this, xr]⟩
            omega
        unfold caller at h3
        rw [hc] at h3
        simp at h3
        obtain ⟨f1, f2⟩ := first_le ok hj
        refine ⟨.inr ⟨f.k, c, c.offs[f.j], f.dl, hc, by simp [arr1, hc], by rw [h3]; exact accx, f1, f2, hl, hh, ?_⟩, xr⟩
        have e1 : Sim.ft ⟨st.rest x ++ st.news cs es x, st.ev ++ [⟨x.t, x.s, x.r, true⟩], setA st.acts x.s (st.acts x.s ++ [(x.t, x.r)])⟩ c.c = x.t := by
          rw [h3]
          simp [Sim.ft, setA, ac0]
        rw [e1]
        simp [arr1, hc, hj]
    · by_cases e : s = x.s
      · subst e
        by_cases q : st.acts x.s = []
        · have e1 : Sim.ft ⟨st.rest x ++ st.news cs es x, st.ev ++ [⟨x.t, x.s, x.r, true⟩], setA st.acts x.s (st.acts x.s ++ [(x.t, x.r)])⟩ x.s = x.t := by
            simp [Sim.ft, setA, q]
          rw [e1]
          exact xf.mono amono
        · rw [(amono _ q).2]
          exact (I.a _ q).mono amono
      · have hs' : st.acts s ≠ [] := by
          simp only [setA, e, if_false] at hs
          exact hs
        rw [(amono _ hs').2]
        exact (I.a _ hs').mono amono
    · simp only [setA] at hy
      split at hy
      · rename_i e
        subst e
        rcases List.mem_append.mp hy with w | w
        · exact I.r _ y w
        · rw [List.mem_singleton.mp w]; exact xr
      · exact I.r _ y hy
    · simp only [List.filter_append, List.map_append]
      rw [I.e s]
      unfold setA
      by_cases e : s = x.s
      · subst e; simp
      · have e' : ¬ x.s = s := fun z => e z.symm
        simp [e, e']
theorem snd0 (cs : List Call) : SndInv cs (sim0 [0]) := by
  refine ⟨fun y hy => ?_, fun s h => absurd rfl h, (fun s y hy => by cases hy), fun s => rfl⟩
  have : y = ⟨0, 0, 0, 0, -1, 0⟩ := List.mem_singleton.mp hy
  subst this
  exact ⟨.inl ⟨rfl, rfl⟩, rfl⟩
theorem snd_run {n m : Int} {cs : List Call} {ws : Int → Int} {es : List Ent} {a b : Sim} (sch : SchOk n m cs es) (z : ∀ e ∈ es, e.a = 0) (r : Run cs ws es a b) : SndInv cs a → SndInv cs b := by
  induction r with
  | done _ => exact id
  | step hx _ ih => exact fun I => ih (snd_step sch z I hx.mem)
theorem snd_reach {cs : List Call} {st : Sim} {n S C M : Int} (sys : SysOk S C M n cs) (I : SndInv cs st) : ∀ (k : Nat) (s : Int), 0 ≤ s → s < k → st.acts s ≠ [] → Reach cs s
  | 0, s, h0, h1, _ => by omega
  | k + 1, s, h0, h1, h => by
    rcases I.a s h with ⟨rfl, _⟩ | ⟨i, c, o, d, hc, rfl, h3, _⟩
    · exact .zero
    · have ok := sys.cs c (List.mem_of_getElem? hc)
      have := ok.c0
      have := ok.ct
      exact .step (List.mem_of_getElem? hc) (snd_reach sys I k c.c (by omega) (by omega) h3)
theorem snd_diff {cs : List Call} {st : Sim} {n S C M : Int} (sys : SysOk S C M n cs) (hS : S ≤ 100) (I : SndInv cs st) : ∀ (k : Nat) (a b : Int), 0 ≤ a → 0 ≤ b → a + b < k → st.acts a ≠ [] → st.acts b ≠ [] → st.ft a - st.ft b ≤ gd cs a b
  | 0, a, b, h0, h1, h2, _, _ => by omega
  | k + 1, a, b, h0, h1, h2, ha, hb => by
    have ra := snd_reach sys I (a.toNat + 1) a h0 (by omega) ha
    have rb := snd_reach sys I (b.toNat + 1) b h1 (by omega) hb
    by_cases e : a = b
    · subst e; rw [gd_self]; omega
    · by_cases l : b < a
      · rcases I.a a ha with ⟨rfl, _⟩ | ⟨i, c, o, d, hc, rfl, h3, h4, h5, h6, h7, h8⟩
        · omega
        · have ok := sys.cs c (List.mem_of_getElem? hc)
          have := ok.c0
          have := ok.ct
          have rc := snd_reach sys I (c.c.toNat + 1) c.c (by omega) (by omega) h3
          have ih := snd_diff sys hS I k c.c b (by omega) h1 (by omega) h3 hb
          obtain ⟨p, lt⟩ := late sys hS ra h1 l
          have := lt.le (i, c) (into_mem.mpr ⟨hc, rfl, rc⟩)
          simp at this
          omega
      · rcases I.a b hb with ⟨rfl, _⟩ | ⟨i, c, o, d, hc, rfl, h3, h4, h5, h6, h7, h8⟩
        · omega
        · have ok := sys.cs c (List.mem_of_getElem? hc)
          have := ok.c0
          have := ok.ct
          have rc := snd_reach sys I (c.c.toNat + 1) c.c (by omega) (by omega) h3
          have ih := snd_diff sys hS I k a c.c h0 (by omega) (by omega) ha h3
          obtain ⟨p, lt⟩ := early sys hS rb h0 (by omega)
          have := lt.le (i, c) (into_mem.mpr ⟨hc, rfl, rc⟩)
          simp at this
          omega
end G
end S_PT8
section S_PT9
set_option linter.all false
set_option maxRecDepth 100000
/-! PT9: least windows suffice. -/
namespace G
open Dm
/-- an arrival of the schedule -/
def From2 (cs : List Call) (es : List Ent) (st : Sim) (s t : Int) : Prop := (s = 0 ∧ t = 0) ∨ ∃ f ∈ es, ∃ c o, cs[f.k]? = some c ∧ c.offs[f.j]? = some o ∧ c.t = s ∧ st.acts c.c ≠ [] ∧ t = st.ft c.c + o + f.dl
theorem From2.mono {cs : List Call} {es : List Ent} {st st' : Sim} {s t : Int} (h : From2 cs es st s t) (ne : ∀ s, st.acts s ≠ [] → st'.acts s ≠ [] ∧ st'.ft s = st.ft s) : From2 cs es st' s t := by
  rcases h with h | ⟨f, hf, c, o, h1, h2, h3, h4, h5⟩
  · exact .inl h
  · obtain ⟨n1, n2⟩ := ne _ h4
    exact .inr ⟨f, hf, c, o, h1, h2, h3, n1, by rw [n2]; exact h5⟩
structure Win2 (cs : List Call) (es : List Ent) (st : Sim) : Prop where
  s : SndInv cs st
  p : ∀ y ∈ st.pend, From2 cs es st y.s y.t
  e : ∀ x ∈ st.ev, From2 cs es st x.s x.t
  a : ∀ s, st.acts s ≠ [] → From2 cs es st s (st.ft s)
  one : ∀ s, (st.acts s).length ≤ 1
  z : (∃ y ∈ st.pend, y.s = 0) ∨ st.acts 0 ≠ []
/-- what windows must be -/
structure WinOk (cs : List Call) (ws : Int → Int) : Prop where
  w0 : ∀ s, 0 ≤ ws s
  w : ∀ s, Reach cs s → ∀ a ∈ mgs cs s, ∀ b ∈ mgs cs s, ¬ (a.k = b.k ∧ a.j = b.j) → gd cs a.c b.c + a.l - b.f ≤ ws s
theorem near {n m S C M : Int} {cs : List Call} {ws : Int → Int} {es : List Ent} {st : Sim} {s t u : Int} (sys : SysOk S C M n cs) (hS : S ≤ 100) (sch : SchOk n m cs es) (z : ∀ e ∈ es, e.a = 0 ∧ e.r = 0) (W : WinOk cs ws) (I : SndInv cs st) (ht : From2 cs es st s t) (hu : From2 cs es st s u) : t - u ≤ ws s := by
  have w0 := W.w0 s
  rcases ht with ⟨rfl, rfl⟩ | ⟨f, hf, c, o, h1, h2, h3, h4, h5⟩
  · rcases hu with ⟨_, rfl⟩ | ⟨g, hg, d, p, g1, g2, g3, g4, g5⟩
    · omega
    · have ok := sys.cs d (List.mem_of_getElem? g1)
      have := ok.c0; have := ok.ct
      omega
  · rcases hu with ⟨e, rfl⟩ | ⟨g, hg, d, p, g1, g2, g3, g4, g5⟩
    · have ok := sys.cs c (List.mem_of_getElem? h1)
      have := ok.c0; have := ok.ct
      omega
    · have okc := sys.cs c (List.mem_of_getElem? h1)
      have okd := sys.cs d (List.mem_of_getElem? g1)
      have := okc.c0; have := okc.ct; have := okd.c0; have := okd.ct
      by_cases e : f.k = g.k ∧ f.j = g.j
      · have : f = g := key_inj sch.nd hf hg (by rw [(z f hf).1, (z f hf).2, (z g hg).1, (z g hg).2, e.1, e.2])
        subst this
        rw [h1] at g1
        cases g1
        rw [h2] at g2
        cases g2
        omega
      · have rc := snd_reach sys I (c.c.toNat + 1) c.c (by omega) (by omega) h4
        have rd := snd_reach sys I (d.c.toNat + 1) d.c (by omega) (by omega) g4
        have rs : Reach cs s := by rw [← h3]; exact .step (List.mem_of_getElem? h1) rc
        have hd := snd_diff sys hS I ((c.c + d.c).toNat + 1) c.c d.c (by omega) (by omega) (by omega) h4 g4
        obtain ⟨_, _, _, _, c', hc', _, hl, hh⟩ := sch.ok f hf
        rw [h1] at hc'; cases hc'
        obtain ⟨_, _, _, _, d', hd', _, gl, gh⟩ := sch.ok g hg
        rw [g1] at hd'; cases hd'
        have := W.w s rs ⟨c.c, o + c.lo, o + c.hi, f.k, f.j⟩ (mgs_mem.mpr ⟨c, o, h1, h3, rc, h2, rfl, rfl, rfl⟩) ⟨d.c, p + d.lo, p + d.hi, g.k, g.j⟩ (mgs_mem.mpr ⟨d, p, g1, g3, rd, g2, rfl, rfl, rfl⟩) e
        simp at this
        omega
theorem win_step {n m S C M : Int} {cs : List Call} {ws : Int → Int} {es : List Ent} {st : Sim} {x : Arr} (sys : SysOk S C M n cs) (hS : S ≤ 100) (sch : SchOk n m cs es) (z : ∀ e ∈ es, e.a = 0 ∧ e.r = 0) (W : WinOk cs ws) (I : Win2 cs es st) (hx : x ∈ st.pend) : Win2 cs es (st.step cs ws es x) := by
  have IS := snd_step (ws := ws) sch (fun e he => (z e he).1) I.s hx
  have xr := (I.s.p x hx).2
  have xf := I.p x hx
  by_cases hq : st.quiet ws x = true
  · have es1 : st.step cs ws es x = ⟨st.rest x, st.ev ++ [⟨x.t, x.s, x.r, false⟩], st.acts⟩ := by unfold Sim.step; rw [if_pos hq]
    rw [es1] at IS ⊢
    have ne0 : st.acts x.s ≠ [] := fun e => by
      unfold Sim.quiet Sim.memo at hq
      rw [e] at hq
      simp at hq
    refine ⟨IS, fun y hy => I.p y (rest_mem hy).1, fun y hy => ?_, I.a, I.one, ?_⟩
    · rcases List.mem_append.mp hy with w | w
      · exact I.e y w
      · rw [List.mem_singleton.mp w]; exact xf
    · rcases I.z with ⟨y, hy, e⟩ | h
      · by_cases q : y = x
        · subst q
          right
          rw [← e]; exact ne0
        · exact .inl ⟨y, List.mem_filter.mpr ⟨hy, by simpa using q⟩, e⟩
      · exact .inr h
  · have es1 : st.step cs ws es x = ⟨st.rest x ++ st.news cs es x, st.ev ++ [⟨x.t, x.s, x.r, true⟩], setA st.acts x.s (st.acts x.s ++ [(x.t, x.r)])⟩ := by unfold Sim.step; rw [if_neg hq]
    have ac0 : st.acts x.s = [] := by
      cases q : st.acts x.s with
      | nil => rfl
      | cons a l =>
        exfalso
        have one := I.one x.s
        have ne : st.acts x.s ≠ [] := by rw [q]; simp
        have hn := near sys hS sch z W I.s xf (I.a x.s ne)
        rw [q] at one
        have hl : l = [] := by cases l with
          | nil => rfl
          | cons _ _ => simp at one
        subst hl
        apply hq
        unfold Sim.quiet Sim.memo
        unfold Sim.ft at hn
        rw [q] at hn ⊢
        simp at hn ⊢
        omega
    have amono : ∀ s, st.acts s ≠ [] → (st.step cs ws es x).acts s ≠ [] ∧ (st.step cs ws es x).ft s = st.ft s := fun s h => by
      have e : s ≠ x.s := fun e => by subst e; exact h ac0
      rw [es1]
      unfold setA Sim.ft
      simp only [e, if_false]
      exact ⟨h, trivial⟩
    have ftx : (st.step cs ws es x).ft x.s = x.t := by rw [es1]; simp [Sim.ft, setA, ac0]
    have accx : (st.step cs ws es x).acts x.s ≠ [] := by rw [es1]; simp [setA]
    have xf' : From2 cs es (st.step cs ws es x) x.s x.t := xf.mono amono
    refine ⟨IS, fun y hy => ?_, fun y hy => ?_, fun s hs => ?_, fun s => ?_, ?_⟩
    · rw [es1] at hy
      rcases List.mem_append.mp hy with w | w
      · exact (I.p y (rest_mem w).1).mono amono
      · obtain ⟨f, hf, h1, h2, h3, rfl⟩ := news_mem w
        obtain ⟨_, _, _, _, c, hc, hj, hl, hh⟩ := sch.ok f hf
        unfold caller at h3
        rw [hc] at h3
        simp at h3
        refine .inr ⟨f, hf, c, c.offs[f.j], hc, List.getElem?_eq_getElem hj, by simp [arr1, hc], by rw [h3]; exact accx, ?_⟩
        rw [h3, ftx]
        simp [arr1, hc, hj]
    · rw [es1] at hy
      rcases List.mem_append.mp hy with w | w
      · exact (I.e y w).mono amono
      · rw [List.mem_singleton.mp w]; exact xf'
    · by_cases e : s = x.s
      · subst e; rw [ftx]; exact xf'
      · have hs' : st.acts s ≠ [] := by
          rw [es1] at hs
          simp only [setA, e, if_false] at hs
          exact hs
        rw [(amono s hs').2]
        exact (I.a s hs').mono amono
    · rw [es1]
      unfold setA
      by_cases e : s = x.s
      · subst e; simp [ac0]
      · simp only [e, if_false]; exact I.one s
    · rcases I.z with ⟨y, hy, e⟩ | h
      · by_cases q : y = x
        · subst q
          right
          rw [← e]; exact accx
        · left
          refine ⟨y, ?_, e⟩
          rw [es1]
          exact List.mem_append.mpr (.inl (List.mem_filter.mpr ⟨hy, by simpa using q⟩))
      · exact .inr (amono 0 h).1
theorem win_run {n m S C M : Int} {cs : List Call} {ws : Int → Int} {es : List Ent} {a b : Sim} (sys : SysOk S C M n cs) (hS : S ≤ 100) (sch : SchOk n m cs es) (z : ∀ e ∈ es, e.a = 0 ∧ e.r = 0) (W : WinOk cs ws) (r : Run cs ws es a b) : Win2 cs es a → Win2 cs es b ∧ b.pend = [] := by
  induction r with
  | done e => exact fun I => ⟨I, e⟩
  | step hx _ ih => exact fun I => ih (win_step sys hS sch z W I hx.mem)
theorem win0 (cs : List Call) (es : List Ent) : Win2 cs es (sim0 [0]) := by
  refine ⟨snd0 cs, fun y hy => ?_, (fun x hx => by cases hx), fun s h => absurd rfl h, fun s => Nat.zero_le _, .inl ⟨⟨0, 0, 0, 0, -1, 0⟩, List.mem_cons_self, rfl⟩⟩
  have : y = ⟨0, 0, 0, 0, -1, 0⟩ := List.mem_singleton.mp hy
  subst this
  exact .inl ⟨rfl, rfl⟩
/-! bounds -/
theorem gd_le {n S C M : Int} {cs : List Call} (sys : SysOk S C M n cs) (hS : S ≤ 100) (hM : M ≤ 99) : ∀ (k : Nat) (a b : Int), Reach cs a → Reach cs b → a + b < k → gd cs a b ≤ 198 * a
  | 0, a, b, ra, rb, h => by have := ra.rg sys; have := rb.rg sys; omega
  | k + 1, a, b, ra, rb, h => by
    have ga := ra.rg sys
    have gb := rb.rg sys
    by_cases e : a = b
    · subst e; rw [gd_self]; omega
    · by_cases l : b < a
      · obtain ⟨p, lt⟩ := late sys hS ra gb.1 l
        obtain ⟨m1, m2, m3⟩ := into_mem.mp lt.mem
        have ok := sys.cs p.2 (List.mem_of_getElem? m1)
        have ih := gd_le sys hS hM k p.2.c b m3 rb (by have := ok.ct; omega)
        have : p.2.last ≤ 99 := by
          unfold Call.last
          rw [List.getLast?_eq_some_getLast ok.ne]
          have := (ok.rg _ (List.getLast_mem ok.ne)).2
          simp; omega
        have := ok.hM
        have := ok.ct
        rw [lt.eq]
        omega
      · obtain ⟨p, lt⟩ := early sys hS rb ga.1 (by omega)
        obtain ⟨m1, m2, m3⟩ := into_mem.mp lt.mem
        have ok := sys.cs p.2 (List.mem_of_getElem? m1)
        have ih := gd_le sys hS hM k a p.2.c ra m3 (by have := ok.ct; omega)
        have : 0 ≤ p.2.first := by
          unfold Call.first
          cases q : p.2.offs with
          | nil => exact absurd q ok.ne
          | cons o os =>
            have := (ok.rg o (by rw [q]; exact List.mem_cons_self)).1
            simpa using this
        have := ok.lo0
        rw [lt.eq]
        omega
theorem gd_sym {n S C M : Int} {cs : List Call} (sys : SysOk S C M n cs) (hS : S ≤ 100) : ∀ (k : Nat) (a b : Int), Reach cs a → Reach cs b → a + b < k → 0 ≤ gd cs a b + gd cs b a
  | 0, a, b, ra, rb, h => by have := ra.rg sys; have := rb.rg sys; omega
  | k + 1, a, b, ra, rb, h => by
    have ga := ra.rg sys
    have gb := rb.rg sys
    have fl : ∀ {c : Call}, c ∈ cs → c.first ≤ c.last := fun {c} hc => by
      have ok := sys.cs c hc
      have h0 : 0 < c.offs.length := List.length_pos_iff.mpr ok.ne
      have := first_le ok h0
      omega
    by_cases e : a = b
    · subst e; rw [gd_self]; omega
    · by_cases l : b < a
      · obtain ⟨p, lt⟩ := late sys hS ra gb.1 l
        obtain ⟨p', et⟩ := early sys hS ra gb.1 l
        obtain ⟨m1, m2, m3⟩ := into_mem.mp lt.mem
        have ok := sys.cs p.2 (List.mem_of_getElem? m1)
        have ih := gd_sym sys hS k p.2.c b m3 rb (by have := ok.ct; omega)
        have h1 := et.le p lt.mem
        have := fl (List.mem_of_getElem? m1)
        have := ok.lh
        rw [lt.eq]
        omega
      · obtain ⟨p, lt⟩ := late sys hS rb ga.1 (by omega)
        obtain ⟨p', et⟩ := early sys hS rb ga.1 (by omega)
        obtain ⟨m1, m2, m3⟩ := into_mem.mp lt.mem
        have ok := sys.cs p.2 (List.mem_of_getElem? m1)
        have ih := gd_sym sys hS k a p.2.c ra m3 (by have := ok.ct; omega)
        have h1 := et.le p lt.mem
        have := fl (List.mem_of_getElem? m1)
        have := ok.lh
        rw [lt.eq]
        omega
theorem mgs_rg {n S C M : Int} {cs : List Call} (sys : SysOk S C M n cs) (hM : M ≤ 99) {s : Int} {m : Mg} (h : m ∈ mgs cs s) : Reach cs m.c ∧ m.f ≤ m.l ∧ 0 ≤ m.f ∧ m.l ≤ 198 := by
  obtain ⟨c, o, h1, h2, h3, h4, h5, h6, h7⟩ := mgs_mem.mp h
  have ok := sys.cs c (List.mem_of_getElem? h1)
  have := ok.rg o (List.mem_of_getElem? h4)
  have := ok.lo0
  have := ok.lh
  have := ok.hM
  refine ⟨by rw [h5]; exact h3, by omega, by omega, by omega⟩
theorem lwin_rg {n S C M : Int} {cs : List Call} (sys : SysOk S C M n cs) (hS : S ≤ 8) (hM : M ≤ 99) (s : Int) : 0 ≤ lwin cs s ∧ lwin cs s ≤ 9999 := by
  by_cases h : Reach cs s ∧ prs cs s ≠ []
  · obtain ⟨p, hp, e, mx⟩ := lwin_some h
    obtain ⟨a, ha, b, hb, hab⟩ := prs_mem.mp hp
    unfold prB at hab
    split at hab
    · cases hab
    · rename_i ne
      cases hab
      obtain ⟨ra, a1, a2, a3⟩ := mgs_rg sys hM ha
      obtain ⟨rb, b1, b2, b3⟩ := mgs_rg sys hM hb
      have ga := ra.rg sys
      have gb := rb.rg sys
      have nS := sys.nS
      have hq : (⟨gd cs b.c a.c + b.l - a.f, b.k, b.j, a.k, a.j⟩ : Pr) ∈ prs cs s := prs_mem.mpr ⟨b, hb, a, ha, by
        unfold prB
        rw [if_neg (fun z => ne ⟨z.1.symm, z.2.symm⟩)]⟩
      have h1 := mx _ hq
      have h2 := gd_sym sys (by omega) ((a.c + b.c).toNat + 1) a.c b.c ra rb (by omega)
      have h3 := gd_le sys (by omega) hM ((a.c + b.c).toNat + 1) a.c b.c ra rb (by omega)
      simp at e h1
      omega
  · rw [lwin_none h]; omega
/-- least windows, or longer ones, suffice -/
theorem win_ok {cs : List Call} {ws : Int → Int} (w0 : ∀ s, 0 ≤ ws s) (h : ∀ s, Reach cs s → lwin cs s ≤ ws s) : WinOk cs ws := by
  refine ⟨w0, fun s r a ha b hb ne => ?_⟩
  have hp : (⟨gd cs a.c b.c + a.l - b.f, a.k, a.j, b.k, b.j⟩ : Pr) ∈ prs cs s := prs_mem.mpr ⟨a, ha, b, hb, by unfold prB; rw [if_neg ne]⟩
  obtain ⟨p, _, e, mx⟩ := lwin_some ⟨r, fun z => by rw [z] at hp; cases hp⟩
  have := mx _ hp
  have := h s r
  simp at *
  omega
end G
end S_PT9
section S_PT10
set_option linter.all false
set_option maxRecDepth 100000
/-! PT10: what a play of first acts brings, for any windows. -/
namespace G
open Dm
structure Gen (cs : List Call) (ws : Int → Int) (es : List Ent) (st : Sim) : Prop where
  s : SndInv cs st
  p : ∀ y ∈ st.pend, From2 cs es st y.s y.t
  e : ∀ x ∈ st.ev, From2 cs es st x.s x.t
  a : ∀ s, ∀ x ∈ st.acts s, From2 cs es st s x.1
  z : (∃ y ∈ st.pend, y.s = 0) ∨ st.acts 0 ≠ []
  m : ∀ s, ∀ x ∈ st.acts s, ∀ y ∈ st.pend, x.1 ≤ y.t
  c : ∀ f ∈ es, ∀ c o, cs[f.k]? = some c → c.offs[f.j]? = some o → st.acts c.c ≠ [] → (∃ y ∈ st.pend, y.s = c.t ∧ y.t = st.ft c.c + o + f.dl) ∨ ∃ x ∈ st.ev, x.s = c.t ∧ x.t = st.ft c.c + o + f.dl
  q : ∀ x ∈ st.ev, ∃ a ∈ st.acts x.s, a.1 ≤ x.t ∧ x.t ≤ a.1 + ws x.s
theorem min_t {l : List Arr} {x y : Arr} (m : IsMin l x) (hy : y ∈ l) : x.t ≤ y.t := by
  have := m.le y hy
  unfold Arr.d Arr.is at this
  simp only [List.map_cons, ltv] at this
  rw [ltvL_cons] at this
  by_cases e : y.t = x.t
  · omega
  · rw [if_neg e] at this
    simp at this
    omega
theorem gen_step {n m S C M : Int} {cs : List Call} {ws : Int → Int} {es : List Ent} {st : Sim} {x : Arr} (sys : SysOk S C M n cs) (sch : SchOk n m cs es) (z : ∀ e ∈ es, e.a = 0 ∧ e.r = 0) (w0 : ∀ s, 0 ≤ ws s) (I : Gen cs ws es st) (hm : IsMin st.pend x) : Gen cs ws es (st.step cs ws es x) := by
  have hx := hm.mem
  have IS := snd_step (ws := ws) sch (fun e he => (z e he).1) I.s hx
  have xr := (I.s.p x hx).2
  have xf := I.p x hx
  have rp : ∀ y ∈ st.pend, y ≠ x → y ∈ st.rest x := fun y hy h => List.mem_filter.mpr ⟨hy, by simpa using h⟩
  by_cases hq : st.quiet ws x = true
  · have es1 : st.step cs ws es x = ⟨st.rest x, st.ev ++ [⟨x.t, x.s, x.r, false⟩], st.acts⟩ := by unfold Sim.step; rw [if_pos hq]
    rw [es1] at IS ⊢
    obtain ⟨a, ha, hat⟩ : ∃ a ∈ st.acts x.s, x.t ≤ a.1 + ws x.s := by
      unfold Sim.quiet Sim.memo at hq
      cases g : (st.acts x.s).getLast? with
      | none => rw [g] at hq; simp at hq
      | some a => rw [g] at hq; exact ⟨a, List.mem_of_getLast? g, by simpa using hq⟩
    refine ⟨IS, fun y hy => I.p y (rest_mem hy).1, fun y hy => ?_, I.a, ?_, fun s b hb y hy => I.m s b hb y (rest_mem hy).1, fun f hf c o h1 h2 h3 => ?_, fun y hy => ?_⟩
    · rcases List.mem_append.mp hy with w | w
      · exact I.e y w
      · rw [List.mem_singleton.mp w]; exact xf
    · rcases I.z with ⟨y, hy, e⟩ | h
      · by_cases q : y = x
        · subst q
          right
          rw [← e]
          intro h0
          rw [h0] at ha
          cases ha
        · exact .inl ⟨y, rp y hy q, e⟩
      · exact .inr h
    · rcases I.c f hf c o h1 h2 h3 with ⟨y, hy, e1, e2⟩ | ⟨y, hy, e1, e2⟩
      · by_cases q : y = x
        · subst q
          exact .inr ⟨_, List.mem_append.mpr (.inr List.mem_cons_self), e1, e2⟩
        · exact .inl ⟨y, rp y hy q, e1, e2⟩
      · exact .inr ⟨y, List.mem_append.mpr (.inl hy), e1, e2⟩
    · rcases List.mem_append.mp hy with w | w
      · exact I.q y w
      · rw [List.mem_singleton.mp w]
        exact ⟨a, ha, I.m _ a ha x hx, hat⟩
  · have es1 : st.step cs ws es x = ⟨st.rest x ++ st.news cs es x, st.ev ++ [⟨x.t, x.s, x.r, true⟩], setA st.acts x.s (st.acts x.s ++ [(x.t, x.r)])⟩ := by unfold Sim.step; rw [if_neg hq]
    have amono : ∀ s, st.acts s ≠ [] → (st.step cs ws es x).acts s ≠ [] ∧ (st.step cs ws es x).ft s = st.ft s := fun s h => by
      rw [es1]
      unfold setA Sim.ft
      by_cases e : s = x.s
      · subst e
        simp only [if_true]
        cases q : st.acts x.s with
        | nil => exact absurd q h
        | cons a l => simp
      · simp only [e, if_false]
        exact ⟨h, trivial⟩
    have asub : ∀ s, ∀ b ∈ st.acts s, b ∈ (st.step cs ws es x).acts s := fun s b hb => by
      rw [es1]
      unfold setA
      by_cases e : s = x.s
      · subst e; simp [hb]
      · simp only [e, if_false]; exact hb
    have axx : (x.t, x.r) ∈ (st.step cs ws es x).acts x.s := by rw [es1]; simp [setA]
    have accx : (st.step cs ws es x).acts x.s ≠ [] := fun e => by rw [e] at axx; cases axx
    have ainv : ∀ s, ∀ b ∈ (st.step cs ws es x).acts s, b ∈ st.acts s ∨ (s = x.s ∧ b = (x.t, x.r)) := fun s b hb => by
      rw [es1] at hb
      simp only [setA] at hb
      split at hb
      · rename_i e
        subst e
        rcases List.mem_append.mp hb with w | w
        · exact .inl w
        · exact .inr ⟨rfl, List.mem_singleton.mp w⟩
      · exact .inl hb
    have xf' : From2 cs es (st.step cs ws es x) x.s x.t := xf.mono amono
    -- what is sent
    have sent : ∀ y ∈ st.news cs es x, st.acts x.s = [] ∧ ∃ f ∈ es, ∃ c o, cs[f.k]? = some c ∧ c.offs[f.j]? = some o ∧ c.c = x.s ∧ y.s = c.t ∧ y.t = x.t + o + f.dl ∧ 0 ≤ o ∧ 0 ≤ f.dl := fun y hy => by
      obtain ⟨f, hf, h1, h2, h3, rfl⟩ := news_mem hy
      obtain ⟨_, _, _, _, c, hc, hj, hl, hh⟩ := sch.ok f hf
      have ok := sch.cok c (List.mem_of_getElem? hc)
      have cnt0 : st.cnt x.s x.r = 0 := by have := (z f hf).1; omega
      have ac0 : st.acts x.s = [] := by
        cases q : st.acts x.s with
        | nil => rfl
        | cons a l =>
          exfalso
          have ha : a ∈ st.acts x.s := by rw [q]; exact List.mem_cons_self
          have := I.s.r x.s a ha
          have hpos : 0 < st.cnt x.s x.r := by
            unfold Sim.cnt
            rw [List.countP_pos_iff]
            exact ⟨a, ha, by simp [this, xr]⟩
          omega
      unfold caller at h3
      rw [hc] at h3
      simp at h3
      have := (ok.rg c.offs[f.j] (List.getElem_mem hj)).1
      have := ok.lo0
      exact ⟨ac0, f, hf, c, c.offs[f.j], hc, List.getElem?_eq_getElem hj, h3, by simp [arr1, hc], by simp [arr1, hc, hj], by omega, by omega⟩
    have ftx : st.acts x.s = [] → (st.step cs ws es x).ft x.s = x.t := fun e => by rw [es1]; simp [Sim.ft, setA, e]
    refine ⟨IS, fun y hy => ?_, fun y hy => ?_, fun s b hb => ?_, ?_, fun s b hb y hy => ?_, fun f hf c o h1 h2 h3 => ?_, fun y hy => ?_⟩
    · rw [es1] at hy
      rcases List.mem_append.mp hy with w | w
      · exact (I.p y (rest_mem w).1).mono amono
      · obtain ⟨ac0, f, hf, c, o, h1, h2, h3, h4, h5, _⟩ := sent y w
        exact .inr ⟨f, hf, c, o, h1, h2, h4.symm, by rw [h3]; exact accx, by rw [h3, ftx ac0]; exact h5⟩
    · rw [es1] at hy
      rcases List.mem_append.mp hy with w | w
      · exact (I.e y w).mono amono
      · rw [List.mem_singleton.mp w]; exact xf'
    · rcases ainv s b hb with w | ⟨rfl, rfl⟩
      · exact (I.a s b w).mono amono
      · exact xf'
    · rcases I.z with ⟨y, hy, e⟩ | h
      · by_cases q : y = x
        · subst q
          right
          rw [← e]; exact accx
        · left
          refine ⟨y, ?_, e⟩
          rw [es1]
          exact List.mem_append.mpr (.inl (rp y hy q))
      · exact .inr (amono 0 h).1
    · have hy' : y ∈ st.rest x ∨ y ∈ st.news cs es x := by rw [es1] at hy; exact List.mem_append.mp hy
      have hxy : x.t ≤ y.t := by
        rcases hy' with w | w
        · exact min_t hm (rest_mem w).1
        · obtain ⟨_, f, _, c, o, _, _, _, _, h5, h6, h7⟩ := sent y w
          omega
      rcases ainv s b hb with w | ⟨rfl, rfl⟩
      · have := I.m s b w x hx
        omega
      · exact hxy
    · by_cases e : c.c = x.s ∧ st.acts x.s = []
      · left
        have hat : cs[f.k]? = some c := h1
        have hjl : f.j < c.offs.length := (List.getElem?_eq_some_iff.mp h2).1
        have cnt0 : st.cnt x.s x.r = 0 := by unfold Sim.cnt; rw [e.2]; rfl
        refine ⟨arr1 cs x f, ?_, by simp [arr1, h1], ?_⟩
        · rw [es1]
          refine List.mem_append.mpr (.inr ?_)
          unfold Sim.news
          refine List.mem_map.mpr ⟨f, List.mem_filter.mpr ⟨hf, ?_⟩, rfl⟩
          unfold hit caller
          rw [h1, cnt0, (z f hf).1, (z f hf).2, xr]
          simp [e.1]
        · rw [e.1, ftx e.2]
          simp [arr1, h1, h2]
      · have h3' : st.acts c.c ≠ [] := by
          by_cases e2 : c.c = x.s
          · intro h; rw [e2] at h; exact e ⟨e2, h⟩
          · rw [es1] at h3
            simp only [setA, e2, if_false] at h3
            exact h3
        rw [(amono _ h3').2]
        rcases I.c f hf c o h1 h2 h3' with ⟨y, hy, e1, e2⟩ | ⟨y, hy, e1, e2⟩
        · by_cases q : y = x
          · subst q
            right
            refine ⟨⟨y.t, y.s, y.r, true⟩, ?_, e1, e2⟩
            rw [es1]
            exact List.mem_append.mpr (.inr List.mem_cons_self)
          · left
            refine ⟨y, ?_, e1, e2⟩
            rw [es1]
            exact List.mem_append.mpr (.inl (rp y hy q))
        · right
          refine ⟨y, ?_, e1, e2⟩
          rw [es1]
          exact List.mem_append.mpr (.inl hy)
    · have hy' : y ∈ st.ev ∨ y = ⟨x.t, x.s, x.r, true⟩ := by
        rw [es1] at hy
        rcases List.mem_append.mp hy with w | w
        · exact .inl w
        · exact .inr (List.mem_singleton.mp w)
      rcases hy' with w | rfl
      · obtain ⟨a, ha, h1, h2⟩ := I.q y w
        exact ⟨a, asub _ a ha, h1, h2⟩
      · have := w0 x.s
        exact ⟨_, axx, Int.le_refl _, by simp; omega⟩
theorem gen_run {n m S C M : Int} {cs : List Call} {ws : Int → Int} {es : List Ent} {a b : Sim} (sys : SysOk S C M n cs) (sch : SchOk n m cs es) (z : ∀ e ∈ es, e.a = 0 ∧ e.r = 0) (w0 : ∀ s, 0 ≤ ws s) (r : Run cs ws es a b) : Gen cs ws es a → Gen cs ws es b ∧ b.pend = [] := by
  induction r with
  | done e => exact fun I => ⟨I, e⟩
  | step hx _ ih => exact fun I => ih (gen_step sys sch z w0 I hx)
theorem gen0 (cs : List Call) (ws : Int → Int) (es : List Ent) : Gen cs ws es (sim0 [0]) := by
  refine ⟨snd0 cs, fun y hy => ?_, (fun x hx => by cases hx), (fun s x hx => by cases hx), .inl ⟨⟨0, 0, 0, 0, -1, 0⟩, List.mem_cons_self, rfl⟩, (fun s x hx => by cases hx), fun f hf c o h1 h2 h3 => absurd rfl h3, (fun x hx => by cases hx)⟩
  have : y = ⟨0, 0, 0, 0, -1, 0⟩ := List.mem_singleton.mp hy
  subst this
  exact .inl ⟨rfl, rfl⟩
end G
end S_PT10
section S_PT11
set_option linter.all false
set_option maxRecDepth 100000
/-! PT11: a schedule in which a service acts twice. -/
namespace G
open Dm
theorem ent_val {n S C M : Int} {cs : List Call} (sys : SysOk S C M n cs) {m : Msg} (h : cs[m.2.1]? = some m.2.2) : ∃ o, m.2.2.offs[m.ent.j]? = some o ∧ o + m.ent.dl = m.add := by
  have ok := sys.cs m.2.2 (List.mem_of_getElem? h)
  have ne := ok.ne
  have hl : 0 < m.2.2.offs.length := List.length_pos_iff.mpr ne
  unfold Msg.ent Msg.add
  by_cases b : m.1 = true
  · refine ⟨m.2.2.last, ?_, by simp [b]⟩
    simp only [b, if_true]
    unfold Call.last
    rw [← List.getLast?_eq_getElem?, List.getLast?_eq_some_getLast ne]
    rfl
  · refine ⟨m.2.2.first, ?_, by simp [b]⟩
    simp only [b, if_false, Bool.false_eq_true]
    unfold Call.first
    cases q : m.2.2.offs with
    | nil => exact absurd q ne
    | cons o os => rfl
/-- the two messages that decide a window, and a tree to their callers -/
structure Dbl (cs : List Call) (l : List Msg) (es : List Ent) (s : Int) (L R : Ent) (cL cR : Call) (oL oR : Int) : Prop where
  tree : Tree cs l
  mx : ∀ m ∈ l, m.2.2.t < s
  mem : ∀ e, e ∈ es ↔ (∃ m ∈ l, e = m.ent) ∨ e = L ∨ e = R
  l1 : cs[L.k]? = some cL
  l2 : cL.offs[L.j]? = some oL
  l3 : cL.t = s
  l4 : cL.c = 0 ∨ ∃ m ∈ l, m.2.2.t = cL.c
  r1 : cs[R.k]? = some cR
  r2 : cR.offs[R.j]? = some oR
  r3 : cR.t = s
  r4 : cR.c = 0 ∨ ∃ m ∈ l, m.2.2.t = cR.c
theorem dbl_ft {n S C M : Int} {cs : List Call} {ws : Int → Int} {es : List Ent} {l : List Msg} {s : Int} {L R : Ent} {cL cR : Call} {oL oR : Int} {st : Sim} (sys : SysOk S C M n cs) (d : Dbl cs l es s L R cL cR oL oR) (I : Gen cs ws es st) (hp : st.pend = []) : ∀ (k : Nat) (t : Int), t < k → (t = 0 ∨ ∃ m ∈ l, m.2.2.t = t) → st.acts t ≠ [] ∧ st.ft t = tm l t
  | k, t, hk, ht => by
    have a00 : st.acts 0 ≠ [] := by
      rcases I.z with ⟨y, hy, _⟩ | h
      · rw [hp] at hy; cases hy
      · exact h
    have fa : ∀ u, st.acts u ≠ [] → From2 cs es st u (st.ft u) := fun u hu => by
      unfold Sim.ft
      cases q : st.acts u with
      | nil => exact absurd q hu
      | cons a r => exact I.a u a (by rw [q]; exact List.mem_cons_self)
    rcases ht with rfl | ⟨m, hm, rfl⟩
    · refine ⟨a00, ?_⟩
      rw [tm_zero sys d.tree]
      rcases fa 0 a00 with ⟨_, e⟩ | ⟨f, hf, c, o, h1, h2, h3, _⟩
      · exact e
      · have ok := sys.cs c (List.mem_of_getElem? h1)
        have := ok.c0; have := ok.ct
        omega
    · cases k with
      | zero =>
        have ok := sys.cs m.2.2 (List.mem_of_getElem? (d.tree.at_ m hm))
        have := ok.c0; have := ok.ct
        omega
      | succ k =>
        have hat := d.tree.at_ m hm
        have ok := sys.cs m.2.2 (List.mem_of_getElem? hat)
        have := ok.c0; have := ok.ct
        obtain ⟨ih1, ih2⟩ := dbl_ft sys d I hp k m.2.2.c (by omega) (d.tree.par m hm)
        obtain ⟨o, ho1, ho2⟩ := ent_val sys hat
        have hme : m.ent ∈ es := (d.mem _).mpr (.inl ⟨m, hm, rfl⟩)
        have hk' : cs[m.ent.k]? = some m.2.2 := by rw [(ent_ak m).2.2]; exact hat
        have hacts : st.acts m.2.2.t ≠ [] := by
          rcases I.c m.ent hme m.2.2 o hk' ho1 ih1 with ⟨y, hy, _⟩ | ⟨x, hx, e1, e2⟩
          · rw [hp] at hy; cases hy
          · obtain ⟨a, ha, _⟩ := I.q x hx
            rw [e1] at ha
            intro z
            rw [z] at ha
            cases ha
        refine ⟨hacts, ?_⟩
        rw [Tree.tm_eq sys d.tree.at_ d.tree.dec m hm]
        rcases fa _ hacts with ⟨e, _⟩ | ⟨f, hf, c, o', h1, h2, h3, h4, h5⟩
        · omega
        · rcases (d.mem f).mp hf with ⟨m', hm', rfl⟩ | rfl | rfl
          · have hat' := d.tree.at_ m' hm'
            rw [(ent_ak m').2.2, hat'] at h1
            cases h1
            have := d.tree.inj hm' hm h3
            subst this
            rw [ho1] at h2
            cases h2
            rw [h5, ih2]
            omega
          · rw [d.l1] at h1
            cases h1
            have := d.mx m hm
            have := d.l3
            omega
          · rw [d.r1] at h1
            cases h1
            have := d.mx m hm
            have := d.r3
            omega
/-- it acts twice -/
theorem dbl_acts {n S C M : Int} {cs : List Call} {ws : Int → Int} {es : List Ent} {l : List Msg} {s : Int} {L R : Ent} {cL cR : Call} {oL oR : Int} {st : Sim} (sys : SysOk S C M n cs) (d : Dbl cs l es s L R cL cR oL oR) (I : Gen cs ws es st) (hp : st.pend = [])
    (hw0 : 0 ≤ ws s) (hw : ws s < (tm l cL.c + oL + L.dl) - (tm l cR.c + oR + R.dl)) : 2 ≤ (st.acts s).length := by
  have okL := sys.cs cL (List.mem_of_getElem? d.l1)
  have okR := sys.cs cR (List.mem_of_getElem? d.r1)
  have := okL.c0; have := okL.ct; have := okR.c0; have := okR.ct
  obtain ⟨aL, fL⟩ := dbl_ft sys d I hp (cL.c.toNat + 1) cL.c (by omega) d.l4
  obtain ⟨aR, fR⟩ := dbl_ft sys d I hp (cR.c.toNat + 1) cR.c (by omega) d.r4
  have two : ∀ a ∈ st.acts s, a.1 = tm l cL.c + oL + L.dl ∨ a.1 = tm l cR.c + oR + R.dl := fun a ha => by
    rcases I.a s a ha with ⟨e, _⟩ | ⟨f, hf, c, o', h1, h2, h3, h4, h5⟩
    · have := d.l3
      omega
    · rcases (d.mem f).mp hf with ⟨m', hm', rfl⟩ | rfl | rfl
      · have hat' := d.tree.at_ m' hm'
        rw [(ent_ak m').2.2, hat'] at h1
        cases h1
        have := d.mx m' hm'
        omega
      · rw [d.l1] at h1
        cases h1
        rw [d.l2] at h2
        cases h2
        left; rw [h5, fL]
      · rw [d.r1] at h1
        cases h1
        rw [d.r2] at h2
        cases h2
        right; rw [h5, fR]
  have hL : ∃ a ∈ st.acts s, a.1 = tm l cL.c + oL + L.dl := by
    rcases I.c L ((d.mem _).mpr (.inr (.inl rfl))) cL oL d.l1 d.l2 aL with ⟨y, hy, _⟩ | ⟨x, hx, e1, e2⟩
    · rw [hp] at hy; cases hy
    · obtain ⟨a, ha, h1, h2⟩ := I.q x hx
      rw [e1, d.l3] at ha h2
      refine ⟨a, ha, ?_⟩
      rw [fL] at e2
      rcases two a ha with h | h
      · exact h
      · omega
  have hR : ∃ a ∈ st.acts s, a.1 = tm l cR.c + oR + R.dl := by
    rcases I.c R ((d.mem _).mpr (.inr (.inr rfl))) cR oR d.r1 d.r2 aR with ⟨y, hy, _⟩ | ⟨x, hx, e1, e2⟩
    · rw [hp] at hy; cases hy
    · obtain ⟨a, ha, h1, h2⟩ := I.q x hx
      rw [e1, d.r3] at ha h2
      refine ⟨a, ha, ?_⟩
      rw [fR] at e2
      rcases two a ha with h | h
      · omega
      · exact h
  obtain ⟨a, ha, ea⟩ := hL
  obtain ⟨b, hb, eb⟩ := hR
  cases q : st.acts s with
  | nil => rw [q] at ha; cases ha
  | cons x r =>
    cases r with
    | nil =>
      rw [q] at ha hb
      rw [List.mem_singleton.mp ha] at ea
      rw [List.mem_singleton.mp hb] at eb
      omega
    | cons y r => simp
/-- a schedule of entries with different messages -/
theorem ents_sch {n S C M : Int} {cs : List Call} (sys : SysOk S C M n cs) (hM : M ≤ 99) {E es : List Ent} (ok : ∀ e ∈ E, e.r = 0 ∧ e.a = 0 ∧ ∃ c, cs[e.k]? = some c ∧ e.j < c.offs.length ∧ c.lo ≤ e.dl ∧ e.dl ≤ c.hi) (df : E.Pairwise fun e f => ¬ (e.k = f.k ∧ e.j = f.j)) (hp : es.Perm E) (hs : es.Pairwise fun e f => ltv f.d e.d = false) : SchOk n 1 cs es := by
  have nd : es.Pairwise fun e f => ¬ (e.k = f.k ∧ e.j = f.j) := (hp.pairwise_iff (fun h e => h ⟨e.1.symm, e.2.symm⟩)).mpr df
  have z : ∀ e ∈ es, e.r = 0 ∧ e.a = 0 ∧ ∃ c, cs[e.k]? = some c ∧ e.j < c.offs.length ∧ c.lo ≤ e.dl ∧ e.dl ≤ c.hi := fun e he => ok e (hp.mem_iff.mp he)
  refine ⟨fun e he => ?_, ?_, ?_, fun c hc => ?_⟩
  · obtain ⟨z1, z2, c, h1, h2, h3, h4⟩ := z e he
    exact ⟨by omega, by omega, by omega, by omega, c, h1, h2, h3, h4⟩
  · refine (hs.and nd).imp_of_mem ?_
    intro e f he hf ⟨h1, h2⟩
    obtain ⟨e1, e2, _⟩ := z e he
    obtain ⟨f1, f2, _⟩ := z f hf
    refine lex_lt ?_
    unfold lex
    rw [e1, e2, f1, f2]
    simp only [Ent.d, ltv, ltvL, eqv_int, e1, e2, f1, f2] at h1
    by_cases h3 : f.k = e.k
    · have h4 : ¬ (f.j : Int) = e.j := fun h => h2 ⟨h3.symm, by omega⟩
      simp [h3, h4] at h1
      omega
    · have h4 : ¬ (f.k : Int) = e.k := by omega
      simp [h4] at h1
      omega
  · rw [List.Nodup, List.pairwise_map]
    refine nd.imp ?_
    intro e f h z
    simp at z
    exact h ⟨z.2.2.1, z.2.2.2⟩
  · have z := sys.cs c hc
    exact ⟨z.c0, z.ct, z.tn, z.ne, z.le, z.up, fun o ho => by have := z.rg o ho; omega, z.lo0, z.lh, by have := z.hM; omega⟩
end G
end S_PT11
section S_PT12
set_option linter.all false
set_option maxRecDepth 100000
/-! PT12: any play, told by its events. -/
namespace G
open Dm
/-- the times of a service's acts on a request -/
def Sim.ag (st : Sim) (s r : Int) : List Int := ((st.acts s).filter fun a => decide (a.2 = r)).map (·.1)
/-- where an arrival comes from -/
def FromG (cs : List Call) (es : List Ent) (ts : List Int) (st : Sim) (s r t : Int) : Prop := (s = 0 ∧ ∃ i : Nat, ts[i]? = some t ∧ r = i) ∨ ∃ f ∈ es, ∃ c o τ, cs[f.k]? = some c ∧ c.offs[f.j]? = some o ∧ c.t = s ∧ f.r = r ∧ (st.ag c.c r)[f.a.toNat]? = some τ ∧ t = τ + o + f.dl
def ArrAt (st : Sim) (s r t : Int) : Prop := (∃ y ∈ st.pend, y.s = s ∧ y.r = r ∧ y.t = t) ∨ ∃ e ∈ st.ev, e.s = s ∧ e.r = r ∧ e.t = t
def o3 (t s r t' s' r' : Int) : Prop := t < t' ∨ (t = t' ∧ (s < s' ∨ (s = s' ∧ r ≤ r')))
theorem o3_trans {a b c d e f g h i : Int} (x : o3 a b c d e f) (y : o3 d e f g h i) : o3 a b c g h i := by
  unfold o3 at *; omega
def Ev.le (a b : Ev) : Prop := o3 a.t a.s a.r b.t b.s b.r
theorem min_o3 {l : List Arr} {x y : Arr} (m : IsMin l x) (hy : y ∈ l) : o3 x.t x.s x.r y.t y.s y.r := by
  have := m.le y hy
  unfold Arr.d Arr.is at this
  simp only [List.map_cons, ltv] at this
  rw [ltvL_cons] at this
  unfold o3
  by_cases e : y.t = x.t
  · rw [if_pos e, ltvL_cons] at this
    by_cases e2 : y.s = x.s
    · rw [if_pos e2, ltvL_cons] at this
      by_cases e3 : y.r = x.r
      · omega
      · rw [if_neg e3] at this
        simp at this
        omega
    · rw [if_neg e2] at this
      simp at this
      omega
  · rw [if_neg e] at this
    simp at this
    omega
structure Play (cs : List Call) (ws : Int → Int) (es : List Ent) (ts : List Int) (st : Sim) : Prop where
  p : ∀ y ∈ st.pend, FromG cs es ts st y.s y.r y.t
  e : ∀ e ∈ st.ev, FromG cs es ts st e.s e.r e.t
  A : ∀ s : Int, (st.ev.filter fun e => decide (e.s = s) && e.act).map (fun e => (e.t, e.r)) = st.acts s
  c : ∀ f ∈ es, ∀ c o τ, cs[f.k]? = some c → c.offs[f.j]? = some o → (st.ag c.c f.r)[f.a.toNat]? = some τ → ArrAt st c.t f.r (τ + o + f.dl)
  z : ∀ (i : Nat) (t : Int), ts[i]? = some t → ArrAt st 0 i t
  o1 : ∀ e ∈ st.ev, ∀ y ∈ st.pend, o3 e.t e.s e.r y.t y.s y.r
  o2 : st.ev.Pairwise Ev.le
  q : ∀ pre e post, st.ev = pre ++ e :: post → (e.act = true ↔ ∀ a ∈ pre, a.s = e.s → a.act = true → a.t + ws a.s < e.t)
theorem FromG.mono {cs : List Call} {es : List Ent} {ts : List Int} {st st' : Sim} {s r t : Int} (h : FromG cs es ts st s r t) (ne : ∀ s r (i : Nat) τ, (st.ag s r)[i]? = some τ → (st'.ag s r)[i]? = some τ) : FromG cs es ts st' s r t := by
  rcases h with h | ⟨f, hf, c, o, τ, h1, h2, h3, h4, h5, h6⟩
  · exact .inl h
  · exact .inr ⟨f, hf, c, o, τ, h1, h2, h3, h4, ne _ _ _ _ h5, h6⟩
theorem ag_set (st : Sim) (x : Arr) (s r : Int) (pe : List Arr) (ev : List Ev) : (Sim.mk pe ev (setA st.acts x.s (st.acts x.s ++ [(x.t, x.r)]))).ag s r = st.ag s r ++ if s = x.s ∧ r = x.r then [x.t] else [] := by
  unfold Sim.ag setA
  by_cases e : s = x.s
  · subst e
    by_cases e2 : r = x.r
    · subst e2; simp
    · have : ¬ x.r = r := fun h => e2 h.symm
      simp [this, e2]
  · simp [e]
theorem ag_len (st : Sim) (s r : Int) : (st.ag s r).length = st.cnt s r := by
  unfold Sim.ag Sim.cnt
  rw [List.length_map, List.countP_eq_length_filter]
theorem snoc_split {α : Type} {l pre post : List α} {x e : α} (h : l ++ [x] = pre ++ e :: post) : (post = [] ∧ pre = l ∧ e = x) ∨ ∃ post', post = post' ++ [x] ∧ l = pre ++ e :: post' := by
  rcases List.eq_nil_or_concat post with rfl | ⟨p', y, rfl⟩
  · have := List.append_inj' h rfl
    exact .inl ⟨rfl, this.1.symm, by simpa using this.2.symm⟩
  · have h' : l ++ [x] = (pre ++ e :: p') ++ [y] := by rw [h]; simp
    have := List.append_inj' h' rfl
    have e1 : x = y := by simpa using this.2
    exact .inr ⟨p', by rw [e1, List.concat_eq_append], this.1⟩
theorem play_step {n m : Int} {cs : List Call} {ws : Int → Int} {es : List Ent} {ts : List Int} {st : Sim} {x : Arr} (sch : SchOk n m cs es) (I : Play cs ws es ts st) (hm : IsMin st.pend x) : Play cs ws es ts (st.step cs ws es x) := by
  have hx := hm.mem
  have rp : ∀ y ∈ st.pend, y ≠ x → y ∈ st.rest x := fun y hy h => List.mem_filter.mpr ⟨hy, by simpa using h⟩
  -- the act rule for the new event
  have rule : ∀ b : Bool, (b = true ↔ ¬ st.quiet ws x = true) → ∀ pre e post, st.ev ++ [(⟨x.t, x.s, x.r, b⟩ : Ev)] = pre ++ e :: post → (e.act = true ↔ ∀ a ∈ pre, a.s = e.s → a.act = true → a.t + ws a.s < e.t) := by
    intro b hb pre e post h
    rcases snoc_split h with ⟨_, rfl, rfl⟩ | ⟨post', _, h'⟩
    · show b = true ↔ _
      rw [hb]
      have hA := I.A x.s
      unfold Sim.quiet Sim.memo
      cases g : (st.acts x.s).getLast? with
      | none =>
        rw [List.getLast?_eq_none_iff] at g
        rw [g, List.map_eq_nil_iff, List.filter_eq_nil_iff] at hA
        simp
        intro a ha h1 h2
        exact absurd (by simp [h1, h2]) (hA a ha)
      | some a =>
        simp only [Option.map_some, decide_eq_true_iff]
        obtain ⟨l0, hl0⟩ : ∃ l0, st.acts x.s = l0 ++ [a] := by
          obtain ⟨h1, h2⟩ := List.getLast?_eq_some_iff.mp g
          exact ⟨h1, h2⟩
        have ho : (st.ev.filter fun e => decide (e.s = x.s) && e.act).Pairwise Ev.le := I.o2.filter _
        generalize hF : (st.ev.filter fun e => decide (e.s = x.s) && e.act) = F at hA ho
        rw [hl0] at hA
        obtain ⟨F0, f, rfl⟩ : ∃ F0 f, F = F0 ++ [f] := by
          rcases List.eq_nil_or_concat F with rfl | ⟨F0, f, rfl⟩
          · simp at hA
          · exact ⟨F0, f, by rw [List.concat_eq_append]⟩
        rw [List.map_append] at hA
        have hA2 := List.append_inj' hA rfl
        have ef : (f.t, f.r) = a := by simpa using hA2.2
        have hf : f ∈ st.ev ∧ f.s = x.s ∧ f.act = true := by
          have : f ∈ st.ev.filter fun e => decide (e.s = x.s) && e.act := by rw [hF]; simp
          rw [List.mem_filter] at this
          simpa using this
        have eft : f.t = a.1 := by rw [← ef]
        constructor
        · intro hn c hc h1 h2
          have hcm : c ∈ F0 ++ [f] := by rw [← hF, List.mem_filter]; exact ⟨hc, by simp [h1, h2]⟩
          have hcf : c.t ≤ f.t := by
            rcases List.mem_append.mp hcm with w | w
            · have := (List.pairwise_append.mp ho).2.2 c w f (by simp)
              unfold Ev.le o3 at this
              omega
            · rw [List.mem_singleton.mp w]; exact Int.le_refl _
          rw [h1]
          show c.t + ws x.s < x.t
          omega
        · intro hall hle
          have := hall f hf.1 hf.2.1 hf.2.2
          rw [hf.2.1] at this
          have : f.t + ws x.s < x.t := this
          omega
    · exact I.q pre e post' h'
  have o2 : ∀ b : Bool, (st.ev ++ [(⟨x.t, x.s, x.r, b⟩ : Ev)]).Pairwise Ev.le := fun b => by
    rw [List.pairwise_append]
    refine ⟨I.o2, List.pairwise_singleton _ _, fun a ha b hb => ?_⟩
    rw [List.mem_singleton.mp hb]
    exact I.o1 a ha x hx
  by_cases hq : st.quiet ws x = true
  · have es1 : st.step cs ws es x = ⟨st.rest x, st.ev ++ [⟨x.t, x.s, x.r, false⟩], st.acts⟩ := by unfold Sim.step; rw [if_pos hq]
    rw [es1]
    have am : ∀ s r t, ArrAt st s r t → ArrAt ⟨st.rest x, st.ev ++ [⟨x.t, x.s, x.r, false⟩], st.acts⟩ s r t := by
      rintro s r t (⟨y, hy, e1, e2, e3⟩ | ⟨e, he, e1⟩)
      · by_cases q : y = x
        · subst q
          exact .inr ⟨_, List.mem_append.mpr (.inr List.mem_cons_self), e1, e2, e3⟩
        · exact .inl ⟨y, rp y hy q, e1, e2, e3⟩
      · exact .inr ⟨e, List.mem_append.mpr (.inl he), e1⟩
    refine ⟨fun y hy => I.p y (rest_mem hy).1, fun y hy => ?_, fun s => ?_, fun f hf c o τ h1 h2 h3 => am _ _ _ (I.c f hf c o τ h1 h2 h3), fun i t h => am _ _ _ (I.z i t h), fun e he y hy => ?_, o2 _, rule false (by simp [hq])⟩
    · rcases List.mem_append.mp hy with w | w
      · exact I.e y w
      · rw [List.mem_singleton.mp w]; exact I.p x hx
    · rw [List.filter_append, List.map_append, I.A s]; simp
    · rcases List.mem_append.mp he with w | w
      · exact I.o1 e w y (rest_mem hy).1
      · rw [List.mem_singleton.mp w]; exact min_o3 hm (rest_mem hy).1
  · have es1 : st.step cs ws es x = ⟨st.rest x ++ st.news cs es x, st.ev ++ [⟨x.t, x.s, x.r, true⟩], setA st.acts x.s (st.acts x.s ++ [(x.t, x.r)])⟩ := by unfold Sim.step; rw [if_neg hq]
    have agn : ∀ s r, (st.step cs ws es x).ag s r = st.ag s r ++ if s = x.s ∧ r = x.r then [x.t] else [] := fun s r => by rw [es1]; exact ag_set st x s r _ _
    have agm : ∀ s r (i : Nat) τ, (st.ag s r)[i]? = some τ → ((st.step cs ws es x).ag s r)[i]? = some τ := fun s r i τ h => by
      rw [agn, List.getElem?_append_left (List.getElem?_eq_some_iff.mp h).1]
      exact h
    have agx : ((st.step cs ws es x).ag x.s x.r)[st.cnt x.s x.r]? = some x.t := by
      rw [agn, if_pos ⟨rfl, rfl⟩, ← ag_len]
      simp
    have pend' : (st.step cs ws es x).pend = st.rest x ++ st.news cs es x := by rw [es1]
    have ev' : (st.step cs ws es x).ev = st.ev ++ [⟨x.t, x.s, x.r, true⟩] := by rw [es1]
    have sent : ∀ y ∈ st.news cs es x, ∃ f ∈ es, ∃ c o, cs[f.k]? = some c ∧ c.offs[f.j]? = some o ∧ c.c = x.s ∧ y.s = c.t ∧ y.r = x.r ∧ f.r = x.r ∧ f.a.toNat = st.cnt x.s x.r ∧ y.t = x.t + o + f.dl ∧ 0 ≤ o ∧ 0 ≤ f.dl ∧ x.s < y.s := fun y hy => by
      obtain ⟨f, hf, h1, h2, h3, rfl⟩ := news_mem hy
      obtain ⟨_, _, _, _, c, hc, hj, hl, hh⟩ := sch.ok f hf
      have ok := sch.cok c (List.mem_of_getElem? hc)
      unfold caller at h3
      rw [hc] at h3
      simp at h3
      have := (ok.rg c.offs[f.j] (List.getElem_mem hj)).1
      have := ok.lo0
      have := ok.ct
      refine ⟨f, hf, c, c.offs[f.j], hc, List.getElem?_eq_getElem hj, h3, by simp [arr1, hc], rfl, h1, by omega, by simp [arr1, hc, hj], by omega, by omega, ?_⟩
      have e : (arr1 cs x f).s = c.t := by simp [arr1, hc]
      rw [e]; omega
    have xo : ∀ y ∈ st.news cs es x, o3 x.t x.s x.r y.t y.s y.r := fun y hy => by
      obtain ⟨f, _, c, o, _, _, _, _, _, _, _, h5, h6, h7, h8⟩ := sent y hy
      unfold o3; omega
    have am : ∀ s r t, ArrAt st s r t → ArrAt (st.step cs ws es x) s r t := by
      rintro s r t (⟨y, hy, e1, e2, e3⟩ | ⟨e, he, e1⟩)
      · by_cases q : y = x
        · subst q
          exact .inr ⟨⟨y.t, y.s, y.r, true⟩, by rw [ev']; exact List.mem_append.mpr (.inr List.mem_cons_self), e1, e2, e3⟩
        · exact .inl ⟨y, by rw [pend']; exact List.mem_append.mpr (.inl (rp y hy q)), e1, e2, e3⟩
      · exact .inr ⟨e, by rw [ev']; exact List.mem_append.mpr (.inl he), e1⟩
    refine ⟨fun y hy => ?_, fun y hy => ?_, fun s => ?_, fun f hf c o τ h1 h2 h3 => ?_, fun i t h => am _ _ _ (I.z i t h), fun e he y hy => ?_, by rw [ev']; exact o2 _, by rw [ev']; exact rule true (by simp [hq])⟩
    · rw [pend'] at hy
      rcases List.mem_append.mp hy with w | w
      · exact (I.p y (rest_mem w).1).mono agm
      · obtain ⟨f, hf, c, o, h1, h2, h3, h4, h5, h6, h7, h8, _⟩ := sent y w
        refine .inr ⟨f, hf, c, o, x.t, h1, h2, h4.symm, by rw [h6, h5], ?_, h8⟩
        rw [h3, h5, h7]
        exact agx
    · rw [ev'] at hy
      rcases List.mem_append.mp hy with w | w
      · exact (I.e y w).mono agm
      · rw [List.mem_singleton.mp w]; exact (I.p x hx).mono agm
    · rw [es1]
      show ((st.ev ++ [(⟨x.t, x.s, x.r, true⟩ : Ev)]).filter fun e => decide (e.s = s) && e.act).map (fun e => (e.t, e.r)) = setA st.acts x.s (st.acts x.s ++ [(x.t, x.r)]) s
      rw [List.filter_append, List.map_append, I.A s]
      unfold setA
      by_cases e : s = x.s
      · subst e; simp
      · have : ¬ x.s = s := fun h => e h.symm
        simp [e, this]
    · rw [agn] at h3
      by_cases old : f.a.toNat < (st.ag c.c f.r).length
      · rw [List.getElem?_append_left old] at h3
        exact am _ _ _ (I.c f hf c o τ h1 h2 h3)
      · rw [List.getElem?_append_right (by omega)] at h3
        by_cases e : c.c = x.s ∧ f.r = x.r
        · rw [if_pos e] at h3
          have h0 : f.a.toNat - (st.ag c.c f.r).length = 0 := by
            have := (List.getElem?_eq_some_iff.mp h3).1
            simp at this
            omega
          rw [h0] at h3
          simp at h3
          subst h3
          have ha := (sch.ok f hf).a0
          rw [ag_len, e.1, e.2] at h0
          rw [ag_len, e.1, e.2] at old
          left
          refine ⟨arr1 cs x f, ?_, by simp [arr1, h1], by simp [arr1, e.2], by simp [arr1, h1, h2]⟩
          rw [pend']
          refine List.mem_append.mpr (.inr ?_)
          unfold Sim.news
          refine List.mem_map.mpr ⟨f, List.mem_filter.mpr ⟨hf, ?_⟩, rfl⟩
          unfold hit caller
          rw [h1]
          simp [e.1, e.2]
          omega
        · rw [if_neg e] at h3
          simp at h3
    · rw [ev'] at he
      rw [pend'] at hy
      have hex : o3 e.t e.s e.r x.t x.s x.r := by
        rcases List.mem_append.mp he with w | w
        · exact I.o1 e w x hx
        · rw [List.mem_singleton.mp w]; unfold o3; simp
      have hxy : o3 x.t x.s x.r y.t y.s y.r := by
        rcases List.mem_append.mp hy with w | w
        · exact min_o3 hm (rest_mem w).1
        · exact xo y w
      exact o3_trans hex hxy
theorem play_run {n m : Int} {cs : List Call} {ws : Int → Int} {es : List Ent} {ts : List Int} {a b : Sim} (sch : SchOk n m cs es) (r : Run cs ws es a b) : Play cs ws es ts a → Play cs ws es ts b ∧ b.pend = [] := by
  induction r with
  | done h => exact fun I => ⟨I, h⟩
  | step h _ ih => exact fun I => ih (play_step sch I h)
theorem play0 (cs : List Call) (ws : Int → Int) (es : List Ent) (ts : List Int) : Play cs ws es ts (sim0 ts) := by
  have hp : ∀ y, y ∈ (sim0 ts).pend ↔ ∃ i : Nat, i < ts.length ∧ y = ⟨(ts[i]?).getD 0, 0, ((0 + i : Nat) : Int), 0, -1, 0⟩ := fun y => by
    show y ∈ arr0 0 ts ↔ _
    rw [arr0_rng, List.mem_map]
    constructor
    · rintro ⟨i, hi, rfl⟩
      exact ⟨i, List.mem_range.mp hi, rfl⟩
    · rintro ⟨i, hi, rfl⟩
      exact ⟨i, List.mem_range.mpr hi, rfl⟩
  refine ⟨fun y hy => ?_, fun e he => (by cases he), fun s => rfl, fun f hf c o τ h1 h2 h3 => (by simp [sim0, Sim.ag] at h3), fun i t h => ?_, fun e he => (by cases he), List.Pairwise.nil, fun pre e post h => ?_⟩
  · obtain ⟨i, hi, rfl⟩ := (hp y).mp hy
    refine .inl ⟨rfl, i, ?_, by simp⟩
    rw [List.getElem?_eq_getElem hi]
    rfl
  · have hi := (List.getElem?_eq_some_iff.mp h).1
    exact .inl ⟨_, (hp _).mpr ⟨i, hi, rfl⟩, rfl, by simp, by simp [h]⟩
  · have := congrArg List.length h
    simp [sim0] at this
/-- a whole play -/
theorem play {n m : Int} {cs : List Call} {ws : Int → Int} {es : List Ent} {ts : List Int} {st : Sim} (sch : SchOk n m cs es) (r : Run cs ws es (sim0 ts) st) : Play cs ws es ts st ∧ st.pend = [] := play_run sch r (play0 cs ws es ts)
end G
end S_PT12
section S_PT13
set_option linter.all false
set_option maxRecDepth 100000
/-! PT13: a key used again. -/
namespace G
open Dm
theorem ag_ev {cs : List Call} {ws : Int → Int} {es : List Ent} {ts : List Int} {st : Sim} (P : Play cs ws es ts st) {s r τ : Int} (h : τ ∈ st.ag s r) : ∃ e ∈ st.ev, e.s = s ∧ e.act = true ∧ e.t = τ ∧ e.r = r := by
  unfold Sim.ag at h
  obtain ⟨a, ha, rfl⟩ := List.mem_map.mp h
  rw [List.mem_filter] at ha
  rw [← P.A s] at ha
  obtain ⟨e, he, rfl⟩ := List.mem_map.mp ha.1
  rw [List.mem_filter] at he
  have h2 := ha.2
  simp at he h2
  exact ⟨e, he.1, he.2.1, he.2.2, rfl, h2⟩
theorem ev_ag {cs : List Call} {ws : Int → Int} {es : List Ent} {ts : List Int} {st : Sim} (P : Play cs ws es ts st) {e : Ev} (he : e ∈ st.ev) (ha : e.act = true) : e.t ∈ st.ag e.s e.r := by
  unfold Sim.ag
  rw [← P.A e.s]
  exact List.mem_map.mpr ⟨(e.t, e.r), List.mem_filter.mpr ⟨List.mem_map.mpr ⟨e, List.mem_filter.mpr ⟨he, by simp [ha]⟩, rfl⟩, by simp⟩, rfl⟩
theorem gd_late {n S C M : Int} {cs : List Call} (sys : SysOk S C M n cs) (hS : S ≤ 100) {k : Nat} {c : Call} (h : cs[k]? = some c) (r : Reach cs c.c) : gd cs c.c 0 + c.last + c.hi ≤ gd cs c.t 0 := by
  have ok := sys.cs c (List.mem_of_getElem? h)
  have := ok.c0; have := ok.ct
  obtain ⟨p, L⟩ := late sys hS (a := c.t) (b := 0) (.step (List.mem_of_getElem? h) r) (by omega) (by omega)
  exact L.le (k, c) (into_mem.mpr ⟨h, rfl, r⟩)
theorem gd_early {n S C M : Int} {cs : List Call} (sys : SysOk S C M n cs) (hS : S ≤ 100) {k : Nat} {c : Call} (h : cs[k]? = some c) (r : Reach cs c.c) : gd cs 0 c.c - c.first - c.lo ≤ gd cs 0 c.t := by
  have ok := sys.cs c (List.mem_of_getElem? h)
  have := ok.c0; have := ok.ct
  obtain ⟨p, L⟩ := early sys hS (a := 0) (b := c.t) (.step (List.mem_of_getElem? h) r) (by omega) (by omega)
  exact L.le (k, c) (into_mem.mpr ⟨h, rfl, r⟩)
/-- all arrivals lie within the act times -/
theorem play_span {n m S C M : Int} {cs : List Call} {ws : Int → Int} {es : List Ent} {ts : List Int} {st : Sim} (sys : SysOk S C M n cs) (hS : S ≤ 100) (sch : SchOk n m cs es) (P : Play cs ws es ts st) : ∀ (k : Nat) (e : Ev), e ∈ st.ev → e.s < k → ∃ (i : Nat) (t0 : Int), ts[i]? = some t0 ∧ e.r = i ∧ Reach cs e.s ∧ t0 - gd cs 0 e.s ≤ e.t ∧ e.t ≤ t0 + gd cs e.s 0 := by
  intro k
  induction k with
  | zero =>
    intro e he hk
    exfalso
    rcases P.e e he with ⟨h0, _⟩ | ⟨f, hf, c, o, τ, h1, h2, h3, _⟩
    · omega
    · have ok := sys.cs c (List.mem_of_getElem? h1)
      have := ok.c0; have := ok.ct
      omega
  | succ k ih =>
    intro e he hk
    rcases P.e e he with ⟨h0, i, hi, hr⟩ | ⟨f, hf, c, o, τ, h1, h2, h3, h4, h5, h6⟩
    · refine ⟨i, e.t, hi, hr, by rw [h0]; exact .zero, ?_, ?_⟩
      · rw [h0, gd_self]; omega
      · rw [h0, gd_self]; omega
    · have ok := sys.cs c (List.mem_of_getElem? h1)
      have := ok.c0; have := ok.ct
      obtain ⟨e', he', e1, e2, e3, e4⟩ := ag_ev P (List.mem_of_getElem? h5)
      obtain ⟨i, t0, hi, hr, hR, l1, l2⟩ := ih e' he' (by omega)
      rw [e1] at hR l1 l2
      have a1 := gd_late sys hS h1 hR
      have a2 := gd_early sys hS h1 hR
      obtain ⟨hj, rfl⟩ := List.getElem?_eq_some_iff.mp h2
      obtain ⟨b1, b2⟩ := first_le ok hj
      obtain ⟨_, _, _, _, c', hc', _, hl, hh⟩ := sch.ok f hf
      rw [h1] at hc'
      cases hc'
      rw [← h3]
      exact ⟨i, t0, hi, by omega, .step (List.mem_of_getElem? h1) hR, by omega, by omega⟩
theorem tree_span {n S C M : Int} {cs : List Call} (sys : SysOk S C M n cs) (hS : S ≤ 100) {l : List Msg} (T : Tree cs l) : ∀ (k : Nat) (v : Int), v < k → (v = 0 ∨ ∃ m ∈ l, m.2.2.t = v) → Reach cs v ∧ - gd cs 0 v ≤ tm l v ∧ tm l v ≤ gd cs v 0 := by
  intro k
  induction k with
  | zero =>
    rintro v hk (rfl | ⟨m, hm, rfl⟩)
    · exact absurd hk (by omega)
    · have ok := sys.cs _ (List.mem_of_getElem? (T.at_ m hm))
      have := ok.c0; have := ok.ct
      exact absurd hk (by omega)
  | succ k ih =>
    rintro v hk (rfl | ⟨m, hm, rfl⟩)
    · rw [tm_zero sys T, gd_self]
      exact ⟨.zero, by omega, by omega⟩
    · have hat := T.at_ m hm
      have ok := sys.cs _ (List.mem_of_getElem? hat)
      have := ok.c0; have := ok.ct
      obtain ⟨r, l1, l2⟩ := ih m.2.2.c (by omega) (T.par m hm)
      have e := Tree.tm_eq sys T.at_ T.dec m hm
      have a1 := gd_late sys hS hat r
      have a2 := gd_early sys hS hat r
      have hne : 0 < m.2.2.offs.length := List.length_pos_iff.mpr ok.ne
      obtain ⟨b1, b2⟩ := first_le ok hne
      have lh := ok.lh
      refine ⟨.step (List.mem_of_getElem? hat) r, ?_, ?_⟩ <;> rw [e] <;> unfold Msg.add <;> split <;> omega
def Msg.ent1 (m : Msg) : Ent := { m.ent with r := 1 }
def onT (l : List Msg) (v : Int) : Prop := v = 0 ∨ ∃ m ∈ l, m.2.2.t = v
/-- two paths to one service, one for each request -/
structure Two (cs : List Call) (l0 l1 : List Msg) (es : List Ent) : Prop where
  t0 : Tree cs l0
  t1 : Tree cs l1
  mem : ∀ e, e ∈ es ↔ (∃ m ∈ l0, e = m.ent) ∨ (∃ m ∈ l1, e = m.ent1)
theorem ent_off {n S C M : Int} {cs : List Call} (sys : SysOk S C M n cs) {m : Msg} (h : cs[m.2.1]? = some m.2.2) {c : Call} {o : Int} (h1 : cs[m.ent.k]? = some c) (h2 : c.offs[m.ent.j]? = some o) : c = m.2.2 ∧ o + m.ent.dl = m.add := by
  rw [(ent_ak m).2.2] at h1
  rw [h] at h1
  cases h1
  obtain ⟨o', e1, e2⟩ := ent_val sys h
  rw [e1] at h2
  cases h2
  exact ⟨rfl, e2⟩
/-- each event of a request is at its path's time -/
theorem two_time {n S C M R : Int} {cs : List Call} {ws : Int → Int} {l0 l1 : List Msg} {es : List Ent} {st : Sim} (sys : SysOk S C M n cs) (D : Two cs l0 l1 es) (P : Play cs ws es [0, R] st) : ∀ (k : Nat) (e : Ev), e ∈ st.ev → e.s < k → (e.r = 0 ∧ onT l0 e.s ∧ e.t = tm l0 e.s) ∨ (e.r = 1 ∧ onT l1 e.s ∧ e.t = R + tm l1 e.s) := by
  intro k
  induction k with
  | zero =>
    intro e he hk
    exfalso
    rcases P.e e he with ⟨h0, _⟩ | ⟨f, hf, c, o, τ, h1, h2, h3, _⟩
    · omega
    · have ok := sys.cs c (List.mem_of_getElem? h1)
      have := ok.c0; have := ok.ct
      omega
  | succ k ih =>
    intro e he hk
    rcases P.e e he with ⟨h0, i, hi, hr⟩ | ⟨f, hf, c, o, τ, h1, h2, h3, h4, h5, h6⟩
    · match i, hi with
      | 0, hi =>
        simp at hi
        exact .inl ⟨hr, .inl h0, by rw [h0, tm_zero sys D.t0]; exact hi.symm⟩
      | 1, hi =>
        simp at hi
        exact .inr ⟨hr, .inl h0, by rw [h0, tm_zero sys D.t1]; omega⟩
      | i + 2, hi => simp at hi
    · have ok := sys.cs c (List.mem_of_getElem? h1)
      have := ok.c0; have := ok.ct
      obtain ⟨e', he', e1, e2, e3, e4⟩ := ag_ev P (List.mem_of_getElem? h5)
      have hi := ih e' he' (by omega)
      rw [e1, e3, e4] at hi
      rcases (D.mem f).mp hf with ⟨m, hm, rfl⟩ | ⟨m, hm, rfl⟩
      · have r0 := (ent_ak m).1
        obtain ⟨rfl, ea⟩ := ent_off sys (D.t0.at_ m hm) h1 h2
        rw [r0] at h4
        have et := Tree.tm_eq sys D.t0.at_ D.t0.dec m hm
        refine .inl ⟨h4.symm, .inr ⟨m, hm, h3⟩, ?_⟩
        rcases hi with ⟨_, _, hi⟩ | ⟨z, _⟩
        · rw [h6, hi, ← h3, et]; omega
        · omega
      · have h1' : cs[m.ent.k]? = some c := h1
        have h2' : c.offs[m.ent.j]? = some o := h2
        obtain ⟨rfl, ea⟩ := ent_off sys (D.t1.at_ m hm) h1' h2'
        have h4' : (1 : Int) = e.r := h4
        have h6' : e.t = τ + o + m.ent.dl := h6
        have et := Tree.tm_eq sys D.t1.at_ D.t1.dec m hm
        refine .inr ⟨h4'.symm, .inr ⟨m, hm, h3⟩, ?_⟩
        rcases hi with ⟨z, _⟩ | ⟨_, _, hi⟩
        · omega
        · rw [h6', hi, ← h3, et]; omega
theorem ev_split {l : List Ev} {e : Ev} (h : e ∈ l) : ∃ pre post, l = pre ++ e :: post := List.append_of_mem h
theorem not_act {cs : List Call} {ws : Int → Int} {es : List Ent} {ts : List Int} {st : Sim} (P : Play cs ws es ts st) {pre post : List Ev} {e : Ev} (h : st.ev = pre ++ e :: post) (hn : ¬ e.act = true) : ∃ a ∈ pre, a.s = e.s ∧ a.act = true ∧ e.t ≤ a.t + ws a.s ∧ a ∈ st.ev ∧ a.le e := by
  have := P.q pre e post h
  have hn2 : ¬ ∀ a ∈ pre, a.s = e.s → a.act = true → a.t + ws a.s < e.t := fun z => hn (this.mpr z)
  simp only [Classical.not_forall] at hn2
  obtain ⟨a, ha, h1, h2, h3⟩ := hn2
  have o := P.o2
  rw [h, List.pairwise_append] at o
  exact ⟨a, ha, h1, h2, by omega, by rw [h]; exact List.mem_append.mpr (.inl ha), o.2.2 a ha e List.mem_cons_self⟩
theorem two_serv {n S C M : Int} {cs : List Call} {l : List Msg} (sys : SysOk S C M n cs) (T : Tree cs l) {v : Int} (h : onT l v) : 0 ≤ v := by
  rcases h with rfl | ⟨m, hm, rfl⟩
  · omega
  · have ok := sys.cs _ (List.mem_of_getElem? (T.at_ m hm))
    have := ok.c0; have := ok.ct
    omega
theorem ag_first {cs : List Call} {ws : Int → Int} {es : List Ent} {ts : List Int} {st : Sim} (P : Play cs ws es ts st) {s r τ : Int} (h : ∃ e ∈ st.ev, e.s = s ∧ e.r = r ∧ e.act = true) (all : ∀ e ∈ st.ev, e.s = s → e.r = r → e.t = τ) : (st.ag s r)[0]? = some τ := by
  obtain ⟨e, he, rfl, rfl, ha⟩ := h
  have := ev_ag P he ha
  cases q : st.ag e.s e.r with
  | nil => rw [q] at this; cases this
  | cons x l =>
    have hx : x ∈ st.ag e.s e.r := by rw [q]; exact List.mem_cons_self
    obtain ⟨e', he', e1, e2, e3, e4⟩ := ag_ev P hx
    rw [← e3]
    simp [all e' he' e1 e4]
/-- the first request's path is acted on -/
theorem two_ev0 {n S C M R s : Int} {cs : List Call} {ws : Int → Int} {l0 l1 : List Msg} {es : List Ent} {st : Sim} (sys : SysOk S C M n cs) (D : Two cs l0 l1 es) (P : Play cs ws es [0, R] st) (hp : st.pend = [])
    (weak : ∀ v, v ≤ s → onT l0 v → onT l1 v → tm l0 v ≤ R + tm l1 v) : ∀ (k : Nat) (v : Int), v < k → v ≤ s → onT l0 v → ∃ e ∈ st.ev, e.s = v ∧ e.r = 0 ∧ e.act = true := by
  intro k
  induction k with
  | zero => intro v hk _ h; have := two_serv sys D.t0 h; omega
  | succ k ih =>
    intro v hk hvs h
    have hev : ∃ e ∈ st.ev, e.s = v ∧ e.r = 0 ∧ e.t = tm l0 v := by
      rcases h with rfl | ⟨m, hm, rfl⟩
      · rcases P.z 0 0 rfl with ⟨y, hy, _⟩ | ⟨e, he, e1, e2, e3⟩
        · rw [hp] at hy; cases hy
        · exact ⟨e, he, e1, e2, by rw [e3, tm_zero sys D.t0]⟩
      · have hat := D.t0.at_ m hm
        have ok := sys.cs _ (List.mem_of_getElem? hat)
        have := ok.c0; have := ok.ct
        have hc := ih m.2.2.c (by omega) (by omega) (D.t0.par m hm)
        have hall : ∀ e ∈ st.ev, e.s = m.2.2.c → e.r = 0 → e.t = tm l0 m.2.2.c := fun e he h1 h2 => by
          rcases two_time sys D P (e.s.toNat + 1) e he (by omega) with ⟨_, _, z⟩ | ⟨z, _⟩
          · rw [z, h1]
          · omega
        have hf := ag_first P hc hall
        obtain ⟨o, e1, e2⟩ := ent_val sys hat
        have ak := ent_ak m
        rcases P.c m.ent ((D.mem _).mpr (.inl ⟨m, hm, rfl⟩)) m.2.2 o (tm l0 m.2.2.c) (by rw [ak.2.2]; exact hat) e1 (by rw [ak.1, ak.2.1]; exact hf) with ⟨y, hy, _⟩ | ⟨e, he, e3, e4, e5⟩
        · rw [hp] at hy; cases hy
        · refine ⟨e, he, e3, by rw [e4, ak.1], ?_⟩
          rw [e5, Tree.tm_eq sys D.t0.at_ D.t0.dec m hm]; omega
    obtain ⟨e, he, e1, e2, e3⟩ := hev
    by_cases ha : e.act = true
    · exact ⟨e, he, e1, e2, ha⟩
    · obtain ⟨pre, post, hs⟩ := ev_split he
      obtain ⟨a, _, a1, a2, a3, a4, a5⟩ := not_act P hs ha
      rcases two_time sys D P (a.s.toNat + 1) a a4 (by omega) with ⟨z, _⟩ | ⟨z1, z2, z3⟩
      · exact ⟨a, a4, by rw [a1, e1], z, a2⟩
      · exfalso
        rw [a1, e1] at z2 z3
        have := weak v hvs h z2
        unfold Ev.le o3 at a5
        omega
/-- the second request's path is acted on -/
theorem two_ev1 {n S C M R s : Int} {cs : List Call} {ws : Int → Int} {l0 l1 : List Msg} {es : List Ent} {st : Sim} (sys : SysOk S C M n cs) (D : Two cs l0 l1 es) (P : Play cs ws es [0, R] st) (hp : st.pend = [])
    (sep : ∀ v, v < s → onT l0 v → onT l1 v → tm l0 v + ws v < R + tm l1 v) : ∀ (k : Nat) (v : Int), v < k → v ≤ s → onT l1 v → ∃ e ∈ st.ev, e.s = v ∧ e.r = 1 ∧ (v < s → e.act = true) := by
  intro k
  induction k with
  | zero => intro v hk _ h; have := two_serv sys D.t1 h; omega
  | succ k ih =>
    intro v hk hvs h
    have hev : ∃ e ∈ st.ev, e.s = v ∧ e.r = 1 ∧ e.t = R + tm l1 v := by
      rcases h with rfl | ⟨m, hm, rfl⟩
      · rcases P.z 1 R rfl with ⟨y, hy, _⟩ | ⟨e, he, e1, e2, e3⟩
        · rw [hp] at hy; cases hy
        · exact ⟨e, he, e1, e2, by rw [e3, tm_zero sys D.t1]; omega⟩
      · have hat := D.t1.at_ m hm
        have ok := sys.cs _ (List.mem_of_getElem? hat)
        have := ok.c0; have := ok.ct
        obtain ⟨e', he', g1, g2, g3⟩ := ih m.2.2.c (by omega) (by omega) (D.t1.par m hm)
        have hall : ∀ e ∈ st.ev, e.s = m.2.2.c → e.r = 1 → e.t = R + tm l1 m.2.2.c := fun e he h1 h2 => by
          rcases two_time sys D P (e.s.toNat + 1) e he (by omega) with ⟨z, _⟩ | ⟨_, _, z⟩
          · omega
          · rw [z, h1]
        have hf := ag_first P ⟨e', he', g1, g2, g3 (by omega)⟩ hall
        obtain ⟨o, e1, e2⟩ := ent_val sys hat
        have ak := ent_ak m
        rcases P.c m.ent1 ((D.mem _).mpr (.inr ⟨m, hm, rfl⟩)) m.2.2 o (R + tm l1 m.2.2.c) (by show cs[m.ent.k]? = _; rw [ak.2.2]; exact hat) e1 (by show (st.ag _ 1)[m.ent.a.toNat]? = _; rw [ak.2.1]; exact hf) with ⟨y, hy, _⟩ | ⟨e, he, e3, e4, e5⟩
        · rw [hp] at hy; cases hy
        · refine ⟨e, he, e3, e4, ?_⟩
          have e5' : e.t = R + tm l1 m.2.2.c + o + m.ent.dl := e5
          rw [e5', Tree.tm_eq sys D.t1.at_ D.t1.dec m hm]; omega
    obtain ⟨e, he, e1, e2, e3⟩ := hev
    by_cases hvs' : v < s
    · by_cases ha : e.act = true
      · exact ⟨e, he, e1, e2, fun _ => ha⟩
      · obtain ⟨pre, post, hs⟩ := ev_split he
        obtain ⟨a, _, a1, a2, a3, a4, a5⟩ := not_act P hs ha
        rcases two_time sys D P (a.s.toNat + 1) a a4 (by omega) with ⟨z1, z2, z3⟩ | ⟨z, _⟩
        · exfalso
          rw [a1, e1] at z2 z3 a3
          have := sep v hvs' z2 h
          omega
        · exact ⟨a, a4, by rw [a1, e1], z, fun _ => a2⟩
    · exact ⟨e, he, e1, e2, fun z => absurd z hvs'⟩
theorem first_split (p : Ev → Bool) : ∀ l : List Ev, (∃ e ∈ l, p e = true) → ∃ pre e post, l = pre ++ e :: post ∧ p e = true ∧ ∀ a ∈ pre, p a = false
  | [], h => by obtain ⟨e, he, _⟩ := h; cases he
  | x :: l, h => by
    by_cases hx : p x = true
    · exact ⟨[], x, l, rfl, hx, fun a ha => by cases ha⟩
    · obtain ⟨e, he, hp⟩ := h
      have he' : e ∈ l := by
        rcases List.mem_cons.mp he with rfl | w
        · exact absurd hp hx
        · exact w
      obtain ⟨pre, e, post, h1, h2, h3⟩ := first_split p l ⟨e, he', hp⟩
      refine ⟨x :: pre, e, post, by rw [h1]; rfl, h2, fun a ha => ?_⟩
      rcases List.mem_cons.mp ha with rfl | w
      · simpa using hx
      · exact h3 a w
/-- what the service does with the second request -/
theorem two_last {n S C M R s : Int} {cs : List Call} {ws : Int → Int} {l0 l1 : List Msg} {es : List Ent} {st : Sim} (sys : SysOk S C M n cs) (D : Two cs l0 l1 es) (P : Play cs ws es [0, R] st) (hp : st.pend = [])
    (h0 : onT l0 s) (h1 : onT l1 s) (w0 : 0 ≤ ws s) (sep : ∀ v, v < s → onT l0 v → onT l1 v → tm l0 v ≤ R + tm l1 v ∧ tm l0 v + ws v < R + tm l1 v) (ws_ : tm l0 s ≤ R + tm l1 s) :
    ∃ pre e post, st.ev = pre ++ e :: post ∧ e.s = s ∧ e.r = 1 ∧ (∀ a ∈ pre, ¬ (a.s = s ∧ a.r = 1)) ∧ (tm l0 s + ws s < R + tm l1 s → e.act = true) ∧ (R + tm l1 s ≤ tm l0 s + ws s → e.act = false) := by
  have s0 := two_serv sys D.t0 h0
  obtain ⟨e1, he1, f1, f2, _⟩ := two_ev1 sys D P hp (fun v a b c => (sep v a b c).2) (s.toNat + 1) s (by omega) (Int.le_refl _) h1
  obtain ⟨e0, he0, g1, g2, g3⟩ := two_ev0 sys D P hp (s := s) (fun v a b c => by
    by_cases e : v = s
    · rw [e]; exact ws_
    · exact (sep v (by omega) b c).1) (s.toNat + 1) s (by omega) (Int.le_refl _) h0
  obtain ⟨pre, e, post, hs, hpe, hpre⟩ := first_split (fun e => decide (e.s = s) && decide (e.r = 1)) st.ev ⟨e1, he1, by simp [f1, f2]⟩
  simp at hpe hpre
  have hem : e ∈ st.ev := by rw [hs]; simp
  have te : e.t = R + tm l1 s := by
    rcases two_time sys D P (e.s.toNat + 1) e hem (by omega) with ⟨z, _⟩ | ⟨_, _, z⟩
    · omega
    · rw [z, hpe.1]
  refine ⟨pre, e, post, hs, hpe.1, hpe.2, fun a ha => by have := hpre a ha; simpa using this, fun lt => ?_, fun le => ?_⟩
  · apply Classical.byContradiction
    intro hn
    obtain ⟨a, ha, a1, a2, a3, a4, a5⟩ := not_act P hs hn
    rcases two_time sys D P (a.s.toNat + 1) a a4 (by omega) with ⟨z1, z2, z3⟩ | ⟨z, _⟩
    · rw [a1, hpe.1] at z3 a3
      omega
    · exact hpre a ha (by rw [a1, hpe.1]) z
  · cases hact : e.act with
    | false => rfl
    | true =>
      exfalso
      have t0 : e0.t = tm l0 s := by
        rcases two_time sys D P (e0.s.toNat + 1) e0 he0 (by omega) with ⟨_, _, z⟩ | ⟨z, _⟩
        · rw [z, g1]
        · omega
      have hall := (P.q pre e post hs).mp hact
      have hin : e0 ∈ pre := by
        have hm := he0
        rw [hs] at hm
        rcases List.mem_append.mp hm with w | w
        · exact w
        · exfalso
          rcases List.mem_cons.mp w with rfl | w
          · omega
          · have o := P.o2
            rw [hs, List.pairwise_append] at o
            have := (List.pairwise_cons.mp o.2.1).1 e0 w
            unfold Ev.le o3 at this
            omega
      have := hall e0 hin (by rw [g1, hpe.1]) g3
      rw [g1] at this
      omega
end G
end S_PT13
section S_PT14
set_option linter.all false
set_option maxRecDepth 100000
/-! PT14: how long a key is remembered; schedules of several requests. -/
namespace G
open Dm
/-- how long a service can remember a key, compared with its earliest act -/
noncomputable def tick (cs : List Call) (ws : Int → Int) (s : Int) : Int := ws s + gd cs s 0 + gd cs 0 s
/-- the first service that can remember longest -/
structure Lf (cs : List Call) (ws : Int → Int) (s : Int) : Prop where
  r : Reach cs s
  le : ∀ v, Reach cs v → tick cs ws v ≤ tick cs ws s
  lt : ∀ v, Reach cs v → v < s → tick cs ws v < tick cs ws s
noncomputable def tickD (cs : List Call) (ws : Int → Int) (s : Int) : D := .tup [.int (tick cs ws s), .int (-s)]
def mk2 : Mk := .tup [.int, .int]
theorem tick_mk (cs : List Call) (ws : Int → Int) (s : Int) : mkOk mk2 (tickD cs ws s) = true := by
  simp [mk2, tickD, Dm.mkOk, mkOkL]
theorem tick_max {n S C M : Int} {cs : List Call} (sys : SysOk S C M n cs) {ws : Int → Int} {l : List Int} (hl : ∀ v, v ∈ l ↔ Reach cs v) {d : D} (hd : d ∈ l.map (tickD cs ws)) (mx : ∀ y ∈ l.map (tickD cs ws), ltv d y = false) : ∃ s, d = tickD cs ws s ∧ Lf cs ws s := by
  obtain ⟨s, hs, rfl⟩ := List.mem_map.mp hd
  have h : ∀ v, Reach cs v → tick cs ws v < tick cs ws s ∨ (tick cs ws v = tick cs ws s ∧ s ≤ v) := fun v hv => by
    have := mx _ (List.mem_map.mpr ⟨v, (hl v).mpr hv, rfl⟩)
    simp only [tickD, ltv] at this
    rw [ltvL_cons] at this
    by_cases e : tick cs ws s = tick cs ws v
    · rw [if_pos e, ltvL_cons] at this
      by_cases e2 : -s = -v
      · right; omega
      · rw [if_neg e2] at this
        simp at this
        right; omega
    · rw [if_neg e] at this
      simp at this
      left; omega
  exact ⟨s, rfl, (hl s).mp hs, fun v hv => by have := h v hv; omega, fun v hv lt => by have := h v hv; omega⟩
theorem ents_sch2 {n S C M m : Int} {cs : List Call} (sys : SysOk S C M n cs) (hM : M ≤ 99) {E es : List Ent} (ok : ∀ e ∈ E, e.Ok m cs) (df : E.Pairwise fun e f => ¬ (e.r = f.r ∧ e.a = f.a ∧ e.k = f.k ∧ e.j = f.j)) (hp : es.Perm E) (hs : es.Pairwise fun e f => ltv f.d e.d = false) : SchOk n m cs es := by
  have nd : es.Pairwise fun e f => ¬ (e.r = f.r ∧ e.a = f.a ∧ e.k = f.k ∧ e.j = f.j) := (hp.pairwise_iff (fun h e => h ⟨e.1.symm, e.2.1.symm, e.2.2.1.symm, e.2.2.2.symm⟩)).mpr df
  refine ⟨fun e he => ok e (hp.mem_iff.mp he), ?_, ?_, fun c hc => ?_⟩
  · refine (hs.and nd).imp ?_
    intro e f ⟨h1, h2⟩
    refine lex_lt ?_
    unfold lex
    simp only [Ent.d, ltv] at h1
    rw [ltvL_cons] at h1
    by_cases c1 : f.r = e.r
    · rw [if_pos c1, ltvL_cons] at h1
      by_cases c2 : f.a = e.a
      · rw [if_pos c2, ltvL_cons] at h1
        by_cases c3 : (f.k : Int) = e.k
        · rw [if_pos c3, ltvL_cons] at h1
          by_cases c4 : (f.j : Int) = e.j
          · exact absurd ⟨c1.symm, c2.symm, by omega, by omega⟩ h2
          · rw [if_neg c4] at h1
            simp at h1
            omega
        · rw [if_neg c3] at h1
          simp at h1
          omega
      · rw [if_neg c2] at h1
        simp at h1
        omega
    · rw [if_neg c1] at h1
      simp at h1
      omega
  · rw [List.Nodup, List.pairwise_map]
    refine nd.imp ?_
    intro e f h z
    simp at z
    exact h z
  · have z := sys.cs c hc
    exact ⟨z.c0, z.ct, z.tn, z.ne, z.le, z.up, fun o ho => by have := z.rg o ho; omega, z.lo0, z.lh, by have := z.hM; omega⟩
def Msg.entr (r : Int) (m : Msg) : Ent := { m.ent with r := r }
def entR (r : Int) : D → Option D
  | .tup [a, b, c] => some (.tup [.int r, .int 0, a, b, c])
  | _ => none
theorem entr0 (m : Msg) : m.entr 0 = m.ent := by
  unfold Msg.entr Msg.ent
  split <;> rfl
theorem entR_d {r : Int} {m : Msg} (h : m.2.2.offs ≠ []) : entR r m.d = some (m.entr r).d := by
  have hp : 1 ≤ m.2.2.offs.length := List.length_pos_iff.mpr h
  unfold Msg.d Msg.entr Msg.ent
  by_cases e : m.1 = true
  · simp [e, msgL, entR, Ent.d]
    omega
  · simp [e, msgE, entR, Ent.d]
theorem entsR {r : Int} {l : List Msg} (h : ∀ m ∈ l, m.2.2.offs ≠ []) : (l.map Msg.d).filterMap (entR r) = (l.map (Msg.entr r)).map Ent.d := by
  induction l with
  | nil => rfl
  | cons m l ih =>
    rw [List.map_cons, List.filterMap_cons, entR_d (h m List.mem_cons_self)]
    simp only [List.map_cons]
    rw [ih fun x hx => h x (List.mem_cons_of_mem _ hx)]
theorem entr_ok {n S C M R r : Int} {cs : List Call} (sys : SysOk S C M n cs) {m : Msg} (h : cs[m.2.1]? = some m.2.2) (r0 : 0 ≤ r) (rR : r < R) : (m.entr r).Ok R cs := by
  have ok := sys.cs _ (List.mem_of_getElem? h)
  have hp : 1 ≤ m.2.2.offs.length := List.length_pos_iff.mpr ok.ne
  have lh := ok.lh
  have ak := ent_ak m
  refine ⟨r0, rR, by show 0 ≤ m.ent.a; rw [ak.2.1]; omega, by show m.ent.a ≤ 99; rw [ak.2.1]; omega, m.2.2, by show cs[m.ent.k]? = _; rw [ak.2.2]; exact h, ?_, ?_, ?_⟩
  · show m.ent.j < _
    unfold Msg.ent; split <;> simp <;> omega
  · show m.2.2.lo ≤ m.ent.dl
    unfold Msg.ent; split <;> simp <;> omega
  · show m.ent.dl ≤ m.2.2.hi
    unfold Msg.ent; split <;> simp <;> omega
/-- the messages of a tree are different -/
theorem tree_df {cs : List Call} {l : List Msg} (T : Tree cs l) (r : Int) : (l.map (Msg.entr r)).Pairwise fun e f => ¬ (e.r = f.r ∧ e.a = f.a ∧ e.k = f.k ∧ e.j = f.j) := by
  rw [List.pairwise_map]
  refine T.dec.imp_of_mem ?_
  intro m m' hm hm' hlt ⟨_, _, hk, _⟩
  have hk' : m.ent.k = m'.ent.k := hk
  rw [(ent_ak m).2.2, (ent_ak m').2.2] at hk'
  have h1 := T.at_ m hm
  have h2 := T.at_ m' hm'
  rw [hk', h2] at h1
  have := Option.some.inj h1
  rw [this] at hlt
  omega
/-- what reuse_conflict hands back -/
structure ReuOk (n : Int) (cs : List Call) (ws : Int → Int) (s : Int) (es : List Ent) : Prop where
  lf : Lf cs ws s
  sch : SchOk n 2 cs es
  len : es.length ≤ 2000
  two : ∃ l0 l1, MF cs s 0 l0 ∧ MF cs 0 s l1 ∧ Two cs l0 l1 es
theorem reu_sep {n S C M R : Int} {cs : List Call} {ws : Int → Int} {s : Int} {l0 l1 : List Msg} (sys : SysOk S C M n cs) (hS : S ≤ 100) (lf : Lf cs ws s) (m0 : MF cs s 0 l0) (m1 : MF cs 0 s l1) (w0 : ∀ s, 0 ≤ ws s) (hR : tick cs ws s ≤ R) :
    onT l0 s ∧ onT l1 s ∧ tm l0 s = gd cs s 0 ∧ tm l1 s = - gd cs 0 s ∧ (∀ v, v < s → onT l0 v → onT l1 v → tm l0 v ≤ R + tm l1 v ∧ tm l0 v + ws v < R + tm l1 v) ∧ tm l0 s ≤ R + tm l1 s := by
  obtain ⟨T0, _, t0a, _, _, _⟩ := m0.tree sys
  obtain ⟨T1, _, _, t1b, _, _⟩ := m1.tree sys
  have d0 := m0.diff sys
  have d1 := m1.diff sys
  rw [tm_zero sys T0] at d0
  rw [tm_zero sys T1] at d1
  have ww := w0 s
  refine ⟨t0a, t1b, by omega, by omega, fun v hv h0 h1 => ?_, by unfold tick at hR; omega⟩
  obtain ⟨r, a1, a2⟩ := tree_span sys hS T0 (v.toNat + 1) v (by omega) h0
  obtain ⟨_, b1, b2⟩ := tree_span sys hS T1 (v.toNat + 1) v (by omega) h1
  have := lf.lt v r hv
  have wv := w0 v
  unfold tick at this hR
  omega
/-- at the end of a play -/
theorem reu_last {n S C M R : Int} {cs : List Call} {ws : Int → Int} {s : Int} {es : List Ent} {st : Sim} (sys : SysOk S C M n cs) (hS : S ≤ 100) (d : ReuOk n cs ws s es) (w0 : ∀ s, 0 ≤ ws s) (run : Run cs ws es (sim0 [0, R]) st) (hR : tick cs ws s ≤ R) :
    ∃ pre e post, st.ev = pre ++ e :: post ∧ e.s = s ∧ e.r = 1 ∧ (∀ a ∈ pre, ¬ (a.s = s ∧ a.r = 1)) ∧ (tick cs ws s < R → e.act = true) ∧ (R = tick cs ws s → e.act = false) := by
  obtain ⟨P, hp⟩ := play d.sch run
  obtain ⟨l0, l1, m0, m1, D⟩ := d.two
  obtain ⟨h0, h1, e0, e1, sep, wk⟩ := reu_sep sys hS d.lf m0 m1 w0 hR
  obtain ⟨pre, e, post, x1, x2, x3, x4, x5, x6⟩ := two_last sys D P hp h0 h1 (w0 s) sep wk
  refine ⟨pre, e, post, x1, x2, x3, x4, fun lt => x5 ?_, fun eq => x6 ?_⟩ <;> rw [e0, e1] <;> unfold tick at * <;> omega
theorem lwin_le2 {n S C M : Int} {cs : List Call} (sys : SysOk S C M n cs) (hS : S ≤ 8) (hM : M ≤ 99) (s : Int) : lwin cs s ≤ 1600 := by
  by_cases h : Reach cs s ∧ prs cs s ≠ []
  · obtain ⟨p, hp, e, mx⟩ := lwin_some h
    obtain ⟨a, ha, b, hb, hab⟩ := prs_mem.mp hp
    unfold prB at hab
    split at hab
    · cases hab
    · cases hab
      obtain ⟨ra, a1, a2, a3⟩ := mgs_rg sys hM ha
      obtain ⟨rb, b1, b2, b3⟩ := mgs_rg sys hM hb
      have ga := ra.rg sys
      have gb := rb.rg sys
      have nS := sys.nS
      have h3 := gd_le sys (by omega) hM ((a.c + b.c).toNat + 1) a.c b.c ra rb (by omega)
      simp at e
      omega
  · rw [lwin_none h]; omega
end G
end S_PT14
section S_PT18
set_option linter.all false
set_option maxRecDepth 100000
/-! PT18: tables that show that windows suffice. -/
namespace G
open Dm
/-- the least that an entry must be -/
noncomputable def bdv (cs : List Call) (F : Int → Int → Int) (a b : Int) : Int := if a = b then 0 else if b < a then ((bst (vL F b) (into cs a)).map (vL F b)).getD 0 else ((bst (vE F a) (into cs b)).map (vE F a)).getD 0
theorem bst_val {val : Nat × Call → Int} {l : List (Nat × Call)} (ne : l ≠ []) : ∃ p ∈ l, ((bst val l).map val).getD 0 = val p ∧ ∀ x ∈ l, val x ≤ val p := by
  obtain ⟨p, h1, h2, h3⟩ := bst_max (val := val) ne
  exact ⟨p, h2, by rw [h1]; rfl, h3⟩
theorem bst_eq {val : Nat × Call → Int} {l : List (Nat × Call)} {p : Nat × Call} (hp : p ∈ l) (mx : ∀ x ∈ l, val x ≤ val p) : ((bst val l).map val).getD 0 = val p := by
  obtain ⟨q, h1, h2, h3⟩ := bst_val (val := val) (l := l) (fun z => by rw [z] at hp; cases hp)
  have := mx q h1
  have := h3 p hp
  omega
theorem bdv_gd {n S C M : Int} {cs : List Call} (sys : SysOk S C M n cs) (hS : S ≤ 100) {a b : Int} (ha : 0 ≤ a) (hb : 0 ≤ b) (ha9 : a < n) (hb9 : b < n) : bdv cs (gd cs) a b = gd cs a b := (gd_eq sys hS ha hb ha9 hb9).symm
/-- a table whose entries are not too small is not below the greatest differences -/
theorem gd_le_tab {n S C M : Int} {cs : List Call} (sys : SysOk S C M n cs) (hS : S ≤ 100) {F : Int → Int → Int} (h : ∀ a b, Reach cs a → Reach cs b → bdv cs F a b ≤ F a b) : ∀ (k : Nat) (a b : Int), Reach cs a → Reach cs b → a + b < k → gd cs a b ≤ F a b := by
  intro k
  induction k with
  | zero => intro a b ra rb hk; have := ra.rg sys; have := rb.rg sys; omega
  | succ k ih =>
    intro a b ra rb hk
    have ga := ra.rg sys
    have gb := rb.rg sys
    have h0 := h a b ra rb
    by_cases e : a = b
    · subst e
      unfold bdv at h0
      rw [if_pos rfl] at h0
      rw [gd_self]
      exact h0
    · by_cases hlt : b < a
      · obtain ⟨p, L⟩ := late sys hS ra gb.1 hlt
        have hm := into_mem.mp L.mem
        have ok := sys.cs p.2 (List.mem_of_getElem? hm.1)
        have := ok.ct
        have hi := ih p.2.c b hm.2.2 rb (by omega)
        unfold bdv at h0
        rw [if_neg e, if_pos hlt] at h0
        obtain ⟨q, q1, q2, q3⟩ := bst_val (val := vL F b) (l := into cs a) (List.ne_nil_of_mem L.mem)
        rw [q2] at h0
        have := q3 p L.mem
        have e2 := L.eq
        unfold vL at *
        omega
      · obtain ⟨p, L⟩ := early sys hS rb ga.1 (show a < b by omega)
        have hm := into_mem.mp L.mem
        have ok := sys.cs p.2 (List.mem_of_getElem? hm.1)
        have := ok.ct
        have hi := ih a p.2.c ra hm.2.2 (by omega)
        unfold bdv at h0
        rw [if_neg e, if_neg hlt] at h0
        obtain ⟨q, q1, q2, q3⟩ := bst_val (val := vE F a) (l := into cs b) (List.ne_nil_of_mem L.mem)
        rw [q2] at h0
        have := q3 p L.mem
        have e2 := L.eq
        unfold vE at *
        omega
/-- bounds of arrival times -/
def spB (F : Int → Int → Int) (a b : Nat × Call) : Option Int := if a.1 ≠ b.1 ∨ 1 < a.2.offs.length then some (F a.2.c b.2.c + a.2.last + a.2.hi - b.2.first - b.2.lo) else none
noncomputable def sprd (cs : List Call) (F : Int → Int → Int) (s : Int) : List Int := (into cs s).flatMap fun a => (into cs s).filterMap (spB F a)
theorem sprd_mem {cs : List Call} {F : Int → Int → Int} {s v : Int} : v ∈ sprd cs F s ↔ ∃ a ∈ into cs s, ∃ b ∈ into cs s, spB F a b = some v := by
  unfold sprd
  simp only [List.mem_flatMap, List.mem_filterMap]
theorem offs_ends {n M : Int} {c : Call} (ok : c.Ok n M) : c.offs[c.offs.length - 1]? = some c.last ∧ c.offs[0]? = some c.first := by
  obtain ⟨x, l, e⟩ := List.exists_cons_of_ne_nil ok.ne
  have hp : 1 ≤ c.offs.length := List.length_pos_iff.mpr ok.ne
  constructor
  · unfold Call.last
    rw [List.getLast?_eq_getElem?, List.getElem?_eq_getElem (by omega)]
    rfl
  · unfold Call.first
    rw [List.head?_eq_getElem?, List.getElem?_eq_getElem (by omega)]
    rfl
/-- a window that is not below these bounds is not below the least one, and the other way round -/
theorem lwin_sprd {n S C M : Int} {cs : List Call} (sys : SysOk S C M n cs) {s w : Int} (r : Reach cs s) (w0 : 0 ≤ w) : (∀ v ∈ sprd cs (gd cs) s, v ≤ w) ↔ lwin cs s ≤ w := by
  constructor
  · intro h
    by_cases hp : prs cs s = []
    · rw [lwin_none fun z => z.2 hp]; exact w0
    · obtain ⟨p, hp1, e, _⟩ := lwin_some ⟨r, hp⟩
      obtain ⟨a, ha, b, hb, hab⟩ := prs_mem.mp hp1
      obtain ⟨ca, oa, a1, a2, a3, a4, a5, a6, a7⟩ := mgs_mem.mp ha
      obtain ⟨cb, ob, b1, b2, b3, b4, b5, b6, b7⟩ := mgs_mem.mp hb
      have oka := sys.cs ca (List.mem_of_getElem? a1)
      have okb := sys.cs cb (List.mem_of_getElem? b1)
      unfold prB at hab
      split at hab
      · cases hab
      · rename_i hne
        cases hab
        obtain ⟨ja, rfl⟩ := List.getElem?_eq_some_iff.mp a4
        obtain ⟨jb, rfl⟩ := List.getElem?_eq_some_iff.mp b4
        have f1 := first_le oka ja
        have f2 := first_le okb jb
        have hin : gd cs ca.c cb.c + ca.last + ca.hi - cb.first - cb.lo ∈ sprd cs (gd cs) s := by
          refine sprd_mem.mpr ⟨(a.k, ca), into_mem.mpr ⟨a1, a2, a3⟩, (b.k, cb), into_mem.mpr ⟨b1, b2, b3⟩, ?_⟩
          unfold spB
          rw [if_pos]
          by_cases hk : a.k = b.k
          · right
            show 1 < ca.offs.length
            rw [hk, b1] at a1
            cases a1
            have : a.j ≠ b.j := fun z => hne ⟨hk, z⟩
            omega
          · exact .inl hk
        have := h _ hin
        simp at e
        rw [a5, b5] at e
        omega
  · intro h v hv
    obtain ⟨a, ha, b, hb, hab⟩ := sprd_mem.mp hv
    have ma := into_mem.mp ha
    have mb := into_mem.mp hb
    have oka := sys.cs a.2 (List.mem_of_getElem? ma.1)
    have okb := sys.cs b.2 (List.mem_of_getElem? mb.1)
    unfold spB at hab
    split at hab
    · rename_i hc
      cases hab
      have pa : 1 ≤ a.2.offs.length := List.length_pos_iff.mpr oka.ne
      have ha' : (⟨a.2.c, a.2.last + a.2.lo, a.2.last + a.2.hi, a.1, a.2.offs.length - 1⟩ : Mg) ∈ mgs cs s := mgs_mem.mpr ⟨a.2, a.2.last, ma.1, ma.2.1, ma.2.2, (offs_ends oka).1, rfl, rfl, rfl⟩
      have hb' : (⟨b.2.c, b.2.first + b.2.lo, b.2.first + b.2.hi, b.1, 0⟩ : Mg) ∈ mgs cs s := mgs_mem.mpr ⟨b.2, b.2.first, mb.1, mb.2.1, mb.2.2, (offs_ends okb).2, rfl, rfl, rfl⟩
      have hpr : (⟨gd cs a.2.c b.2.c + (a.2.last + a.2.hi) - (b.2.first + b.2.lo), a.1, a.2.offs.length - 1, b.1, 0⟩ : Pr) ∈ prs cs s := prs_mem.mpr ⟨_, ha', _, hb', by
        unfold prB
        rw [if_neg]
        rintro ⟨z1, z2⟩
        simp at z1 z2
        rcases hc with hc | hc
        · exact hc z1
        · omega⟩
      obtain ⟨p, _, _, mx⟩ := lwin_some ⟨r, fun z => by rw [z] at hpr; cases hpr⟩
      have := mx _ hpr
      simp at this
      omega
    · cases hab
/-! what check_certificate answers -/
noncomputable def prsL (n : Int) (cs : List Call) : List (Int × Int) := (rch n cs).flatMap fun u => (rch n cs).map fun v => (u, v)
noncomputable def badE (cs : List Call) (F : Int → Int → Int) (p : Int × Int) : Bool := decide (F p.1 p.2 < bdv cs F p.1 p.2)
noncomputable def badW (cs : List Call) (F : Int → Int → Int) (ws : Int → Int) (s : Int) : Bool := @decide (∃ v ∈ sprd cs F s, ws s < v) (Classical.propDecidable _)
noncomputable def certD (n : Int) (cs : List Call) (F : Int → Int → Int) (ws : Int → Int) : D := match (prsL n cs).find? (badE cs F) with
  | some p => .tup [.str "entry", .int p.1, .int p.2]
  | none => match (rch n cs).find? (badW cs F ws) with
    | some s => .tup [.str "window", .int s]
    | none => .non
theorem prsL_mem {n S C M : Int} {cs : List Call} (sys : SysOk S C M n cs) {p : Int × Int} : p ∈ prsL n cs ↔ Reach cs p.1 ∧ Reach cs p.2 := by
  unfold prsL
  rw [List.mem_flatMap]
  constructor
  · rintro ⟨u, hu, hp⟩
    obtain ⟨v, hv, rfl⟩ := List.mem_map.mp hp
    exact ⟨(rch_mem sys u).mp hu, (rch_mem sys v).mp hv⟩
  · rintro ⟨h1, h2⟩
    exact ⟨p.1, (rch_mem sys _).mpr h1, List.mem_map.mpr ⟨p.2, (rch_mem sys _).mpr h2, rfl⟩⟩
theorem cert_non {n S C M : Int} {cs : List Call} (sys : SysOk S C M n cs) {F : Int → Int → Int} {ws : Int → Int} : certD n cs F ws = .non ↔ (∀ a b, Reach cs a → Reach cs b → bdv cs F a b ≤ F a b) ∧ ∀ s, Reach cs s → ∀ v ∈ sprd cs F s, v ≤ ws s := by
  unfold certD
  constructor
  · intro h
    cases h1 : (prsL n cs).find? (badE cs F) with
    | some p => rw [h1] at h; cases h
    | none =>
      rw [h1] at h
      simp only at h
      cases h2 : (rch n cs).find? (badW cs F ws) with
      | some s => rw [h2] at h; cases h
      | none =>
        rw [List.find?_eq_none] at h1 h2
        refine ⟨fun a b ra rb => ?_, fun s rs v hv => ?_⟩
        · have := h1 (a, b) ((prsL_mem sys).mpr ⟨ra, rb⟩)
          unfold badE at this
          simp at this
          omega
        · have := h2 s ((rch_mem sys s).mpr rs)
          unfold badW at this
          simp at this
          exact this v hv
  · rintro ⟨h1, h2⟩
    have e1 : (prsL n cs).find? (badE cs F) = none := by
      rw [List.find?_eq_none]
      intro p hp
      obtain ⟨r1, r2⟩ := (prsL_mem sys).mp hp
      have := h1 _ _ r1 r2
      unfold badE
      simp
      omega
    have e2 : (rch n cs).find? (badW cs F ws) = none := by
      rw [List.find?_eq_none]
      intro s hs
      have := h2 s ((rch_mem sys s).mp hs)
      unfold badW
      simp
      exact this
    rw [e1, e2]
end G
end S_PT18
section S_PT20
set_option linter.all false
set_option maxRecDepth 100000
/-! PT20: the greatest difference over all pairs of ways that part. -/
namespace G
open Dm
inductive Way (cs : List Call) : Int → Int → List Nat → Prop where
  | nil (a : Int) : Way cs a a []
  | cons {a b : Int} {i : Nat} {c : Call} {w : List Nat} : cs[i]? = some c → c.c = a → Way cs c.t b w → Way cs a b (i :: w)
section
variable {n S C M : Int} {cs : List Call} (sys : SysOk S C M n cs)
include sys
theorem call_at {i : Nat} {c : Call} (h : cs[i]? = some c) : c.Ok n M := sys.cs c (List.mem_of_getElem? h)
theorem Way.le {a b : Int} {w : List Nat} (h : Way cs a b w) : a ≤ b ∧ (w ≠ [] → a < b) := by
  induction h with
  | nil a => exact ⟨Int.le_refl _, fun z => absurd rfl z⟩
  | cons e1 e2 h ih =>
    have := (call_at sys e1).ct
    exact ⟨by omega, fun _ => by omega⟩
theorem Way.rch {a b : Int} {w : List Nat} (h : Way cs a b w) (r : Reach cs a) : Reach cs b := by
  induction h with
  | nil a => exact r
  | cons e1 e2 h ih =>
    subst e2
    exact ih (.step (List.mem_of_getElem? e1) r)
omit sys in
theorem Way.snoc {a b : Int} {w : List Nat} (h : Way cs a b w) {i : Nat} {c : Call} (e : cs[i]? = some c) (hc : c.c = b) : Way cs a c.t (w ++ [i]) := by
  induction h with
  | nil a => exact .cons e hc (.nil _)
  | cons e1 e2 h ih => exact .cons e1 e2 (ih hc)
omit sys in
theorem Way.last {a b : Int} {w : List Nat} (h : Way cs a b w) : (w = [] ∧ a = b) ∨ ∃ w' i c, w = w' ++ [i] ∧ cs[i]? = some c ∧ c.t = b ∧ Way cs a c.c w' := by
  induction h with
  | nil a => exact .inl ⟨rfl, rfl⟩
  | @cons a b i c w e1 e2 h ih =>
    right
    rcases ih with ⟨rfl, e⟩ | ⟨w', j, c', rfl, f1, f2, f3⟩
    · exact ⟨[], i, c, rfl, e1, e, by rw [e2]; exact .nil _⟩
    · exact ⟨i :: w', j, c', rfl, f1, f2, .cons e1 e2 f3⟩
/-- the service that a call reaches -/
def tgt (cs : List Call) (i : Nat) : Int := (cs[i]?.map Call.t).getD 0
omit sys in
theorem tgt_eq {i : Nat} {c : Call} (h : cs[i]? = some c) : tgt cs i = c.t := by unfold tgt; rw [h]; rfl
theorem Way.tgts {a b : Int} {w : List Nat} (h : Way cs a b w) : ∀ i ∈ w, a < tgt cs i ∧ tgt cs i ≤ b := by
  induction h with
  | nil a => intro i hi; cases hi
  | cons e1 e2 h ih =>
    have ct := (call_at sys e1).ct
    have le := (h.le sys).1
    intro i hi
    rcases List.mem_cons.mp hi with rfl | hi
    · rw [tgt_eq e1]
      omega
    · have := ih i hi
      omega
theorem way_mem : ∀ (k : Nat) (a b : Int), a < n → n - a ≤ k → ∀ w, w ∈ ways cs k a b ↔ Way cs a b w
  | 0, a, b, h1, h2, w => by omega
  | k + 1, a, b, h1, h2, w => by
    unfold ways
    by_cases hab : a = b
    · rw [if_pos hab, List.mem_singleton]
      subst hab
      constructor
      · rintro rfl
        exact .nil _
      · intro hw
        have := (hw.le sys).2
        by_cases z : w = []
        · exact z
        · have := this z; omega
    · rw [if_neg hab, List.mem_flatMap]
      constructor
      · rintro ⟨i, hi, hw⟩
        unfold wy1 at hw
        split at hw
        · rename_i c hc
          split at hw
          · rename_i hca
            obtain ⟨w', hw', rfl⟩ := List.mem_map.mp hw
            have ok := call_at sys hc
            have := ok.ct
            have := ok.tn
            exact .cons hc hca ((way_mem k c.t b (by omega) (by omega) w').mp hw')
          · cases hw
        · cases hw
      · intro hw
        cases hw with
        | nil => exact absurd rfl hab
        | @cons _ _ i c w' e1 e2 hw' =>
          refine ⟨i, List.mem_range.mpr (List.getElem?_eq_some_iff.mp e1).1, ?_⟩
          unfold wy1
          rw [e1]
          simp only
          rw [if_pos e2]
          have ok := call_at sys e1
          have := ok.ct
          have := ok.tn
          exact List.mem_map.mpr ⟨w', (way_mem k c.t b (by omega) (by omega) w').mpr hw', rfl⟩
end
/-- how long a way takes at the latest, at the earliest -/
def lti (cs : List Call) (i : Nat) : Int := (cs[i]?.map fun c => c.last + c.hi).getD 0
def eti (cs : List Call) (i : Nat) : Int := (cs[i]?.map fun c => c.first + c.lo).getD 0
def tik (f : Nat → Int) : List Nat → Int
  | [] => 0
  | i :: w => f i + tik f w
theorem tik_snoc (f : Nat → Int) (i : Nat) : ∀ w, tik f (w ++ [i]) = tik f w + f i
  | [] => by simp [tik]
  | j :: w => by
    rw [List.cons_append, tik, tik, tik_snoc f i w]
    omega
/-- the ways part: no service of the one is of the other -/
def Part (cs : List Call) (x y : List Nat) : Prop := ∀ i ∈ y, tgt cs i ∉ x.map (tgt cs)
section
variable {n S C M : Int} {cs : List Call} (sys : SysOk S C M n cs) (hS : S ≤ 100)
include sys hS
theorem gd_ge_l {a b : Int} {k : Nat} {c : Call} (h : cs[k]? = some c) (hc : c.t = a) (r : Reach cs c.c) (rb : Reach cs b) (hab : b < a) : gd cs c.c b + c.last + c.hi ≤ gd cs a b := by
  have ok := call_at sys h
  have ra : Reach cs a := by rw [← hc]; exact .step (List.mem_of_getElem? h) r
  have g1 := ra.rg sys
  have g2 := rb.rg sys
  have hin : (k, c) ∈ into cs a := into_mem.mpr ⟨h, hc, r⟩
  obtain ⟨p, hp, e, mx⟩ := bst_val (val := vL (gd cs) b) (l := into cs a) (fun z => by rw [z] at hin; cases hin)
  rw [gd_eq sys hS g1.1 g2.1 g1.2 g2.2, if_neg (by omega), if_pos hab, e]
  exact mx _ hin
theorem gd_ge_e {a b : Int} {k : Nat} {c : Call} (h : cs[k]? = some c) (hc : c.t = b) (r : Reach cs c.c) (ra : Reach cs a) (hab : a < b) : gd cs a c.c - c.first - c.lo ≤ gd cs a b := by
  have ok := call_at sys h
  have rb : Reach cs b := by rw [← hc]; exact .step (List.mem_of_getElem? h) r
  have g1 := ra.rg sys
  have g2 := rb.rg sys
  have hin : (k, c) ∈ into cs b := into_mem.mpr ⟨h, hc, r⟩
  obtain ⟨p, hp, e, mx⟩ := bst_val (val := vE (gd cs) a) (l := into cs b) (fun z => by rw [z] at hin; cases hin)
  rw [gd_eq sys hS g1.1 g2.1 g1.2 g2.2, if_neg (by omega), if_neg (by omega), e]
  exact mx _ hin
/-- no pair of ways that part is more apart -/
theorem part_le {s : Int} (rs : Reach cs s) : ∀ (k : Nat) (a b : Int) (x y : List Nat), a + b < k → Way cs s a x → Way cs s b y → Part cs x y → tik (lti cs) x - tik (eti cs) y ≤ gd cs a b
  | 0, a, b, x, y, hk, hx, hy, hp => by
    have := (hx.rch sys rs).rg sys
    have := (hy.rch sys rs).rg sys
    omega
  | k + 1, a, b, x, y, hk, hx, hy, hp => by
    have ra := hx.rch sys rs
    have rb := hy.rch sys rs
    have la := hx.le sys
    have lb := hy.le sys
    by_cases hab : a = b
    · subst hab
      rcases hx.last with ⟨rfl, e⟩ | ⟨x', i, c, rfl, e1, e2, e3⟩
      · subst e
        have : y = [] := by
          by_cases z : y = []
          · exact z
          · have := lb.2 z; omega
        subst this
        rw [gd_self]
        simp [tik]
      · rcases hy.last with ⟨rfl, e⟩ | ⟨y', j, c', rfl, f1, f2, f3⟩
        · have := la.2 (by simp)
          omega
        · exfalso
          refine hp j (by simp) (List.mem_map.mpr ⟨i, by simp, ?_⟩)
          rw [tgt_eq e1, tgt_eq f1, e2, f2]
    · by_cases hlt : b < a
      · rcases hx.last with ⟨rfl, e⟩ | ⟨x', i, c, rfl, e1, e2, e3⟩
        · omega
        · have ct := (call_at sys e1).ct
          have ih := part_le rs k c.c b x' y (by omega) e3 hy fun j hj z => hp j hj (by rw [List.map_append]; exact List.mem_append_left _ z)
          have ge := gd_ge_l sys hS e1 e2 (e3.rch sys rs) rb hlt
          have hl : lti cs i = c.last + c.hi := by unfold lti; rw [e1]; rfl
          rw [tik_snoc, hl]
          omega
      · rcases hy.last with ⟨rfl, e⟩ | ⟨y', i, c, rfl, e1, e2, e3⟩
        · omega
        · have ct := (call_at sys e1).ct
          have ih := part_le rs k a c.c x y' (by omega) hx e3 fun j hj z => hp j (List.mem_append_left _ hj) z
          have ge := gd_ge_e sys hS e1 e2 (e3.rch sys rs) ra (by omega)
          have hl : eti cs i = c.first + c.lo := by unfold eti; rw [e1]; rfl
          rw [tik_snoc, hl]
          omega
/-- a pair of ways that is as far apart -/
theorem part_ex : ∀ (k : Nat) (a b : Int), a + b < k → Reach cs a → Reach cs b → ∃ s x y, Reach cs s ∧ Way cs s a x ∧ Way cs s b y ∧ Part cs x y ∧ tik (lti cs) x - tik (eti cs) y = gd cs a b
  | 0, a, b, hk, ra, rb => by
    have := ra.rg sys
    have := rb.rg sys
    omega
  | k + 1, a, b, hk, ra, rb => by
    have g1 := ra.rg sys
    have g2 := rb.rg sys
    by_cases hab : a = b
    · subst hab
      exact ⟨a, [], [], ra, .nil _, .nil _, fun i hi => (by cases hi), by rw [gd_self]; simp [tik]⟩
    · by_cases hlt : b < a
      · obtain ⟨p, hp, e, mx⟩ := bst_val (val := vL (gd cs) b) (into_ne ra (by omega))
        obtain ⟨p1, p2, p3⟩ := into_mem.mp hp
        have ct := (call_at sys p1).ct
        obtain ⟨s, x, y, rs, hx, hy, hq, hv⟩ := part_ex k p.2.c b (by omega) p3 rb
        refine ⟨s, x ++ [p.1], y, rs, by rw [← p2]; exact hx.snoc p1 rfl, hy, fun i hi z => ?_, ?_⟩
        · rw [List.map_append] at z
          rcases List.mem_append.mp z with z | z
          · exact hq i hi z
          · have := hy.tgts sys i hi
            simp at z
            rw [tgt_eq p1] at z
            omega
        · have hl : lti cs p.1 = p.2.last + p.2.hi := by unfold lti; rw [p1]; rfl
          rw [gd_eq sys hS g1.1 g2.1 g1.2 g2.2, if_neg hab, if_pos hlt, e, tik_snoc, hl]
          unfold vL
          omega
      · obtain ⟨p, hp, e, mx⟩ := bst_val (val := vE (gd cs) a) (into_ne rb (by omega))
        obtain ⟨p1, p2, p3⟩ := into_mem.mp hp
        have ct := (call_at sys p1).ct
        obtain ⟨s, x, y, rs, hx, hy, hq, hv⟩ := part_ex k a p.2.c (by omega) ra p3
        refine ⟨s, x, y ++ [p.1], rs, hx, by rw [← p2]; exact hy.snoc p1 rfl, fun i hi z => ?_, ?_⟩
        · rcases List.mem_append.mp hi with hi | hi
          · exact hq i hi z
          · simp at hi
            subst hi
            obtain ⟨j, hj, ej⟩ := List.mem_map.mp z
            have := hx.tgts sys j hj
            rw [ej, tgt_eq p1] at this
            omega
        · have hl : eti cs p.1 = p.2.first + p.2.lo := by unfold eti; rw [p1]; rfl
          rw [gd_eq sys hS g1.1 g2.1 g1.2 g2.2, if_neg hab, if_neg hlt, e, tik_snoc, hl]
          unfold vE
          omega
end
end G
end S_PT20
section S_PT21
set_option linter.all false
set_option maxRecDepth 100000
/-! PT21: systems with fewer attempts or calls; attempts that are dropped. -/
namespace G
open Dm
/-- every call of the one stands, with at least its attempts, in the other -/
def Less (cs' cs : List Call) : Prop := ∀ (k : Nat) (c' : Call), cs'[k]? = some c' → ∃ c, cs[k]? = some c ∧ c'.c = c.c ∧ c'.t = c.t ∧ c'.lo = c.lo ∧ c'.hi = c.hi ∧ c'.last ≤ c.last ∧ c.first ≤ c'.first ∧ (1 < c'.offs.length → 1 < c.offs.length)
theorem Less.rch {cs' cs : List Call} (L : Less cs' cs) {s : Int} (r : Reach cs' s) : Reach cs s := by
  induction r with
  | zero => exact .zero
  | @step c hc r ih =>
    obtain ⟨k, hk⟩ := List.mem_iff_getElem?.mp hc
    obtain ⟨d, h1, h2, h3, _⟩ := L k c hk
    rw [h3]
    exact .step (List.mem_of_getElem? h1) (by rw [← h2]; exact ih)
section
variable {n S C M S' C' M' : Int} {cs cs' : List Call} (sys : SysOk S C M n cs) (sys' : SysOk S' C' M' n cs') (hS : S ≤ 100) (hS' : S' ≤ 100) (L : Less cs' cs)
include sys sys' hS hS' L
theorem gd_mono : ∀ (k : Nat) (a b : Int), a + b < k → Reach cs' a → Reach cs' b → gd cs' a b ≤ gd cs a b
  | 0, a, b, hk, ra, rb => by
    have := ra.rg sys'
    have := rb.rg sys'
    omega
  | k + 1, a, b, hk, ra, rb => by
    have g1 := ra.rg sys'
    have g2 := rb.rg sys'
    by_cases hab : a = b
    · subst hab
      rw [gd_self, gd_self]
      exact Int.le_refl _
    · by_cases hlt : b < a
      · obtain ⟨p, hp, e, mx⟩ := bst_val (val := vL (gd cs') b) (into_ne ra (by omega))
        obtain ⟨p1, p2, p3⟩ := into_mem.mp hp
        have ct := (call_at sys' p1).ct
        obtain ⟨c, h1, h2, h3, h4, h5, h6, h7, _⟩ := L p.1 p.2 p1
        have ih := gd_mono k p.2.c b (by omega) p3 rb
        have ge := gd_ge_l sys hS h1 (by rw [← h3, p2]) (by rw [← h2]; exact L.rch p3) (L.rch rb) hlt
        rw [gd_eq sys' hS' g1.1 g2.1 g1.2 g2.2, if_neg hab, if_pos hlt, e]
        unfold vL
        rw [h2] at ih ⊢
        omega
      · obtain ⟨p, hp, e, mx⟩ := bst_val (val := vE (gd cs') a) (into_ne rb (by omega))
        obtain ⟨p1, p2, p3⟩ := into_mem.mp hp
        have ct := (call_at sys' p1).ct
        obtain ⟨c, h1, h2, h3, h4, h5, h6, h7, _⟩ := L p.1 p.2 p1
        have ih := gd_mono k a p.2.c (by omega) ra p3
        have ge := gd_ge_e sys hS h1 (by rw [← h3, p2]) (by rw [← h2]; exact L.rch p3) (L.rch ra) (by omega)
        rw [gd_eq sys' hS' g1.1 g2.1 g1.2 g2.2, if_neg hab, if_neg hlt, e]
        unfold vE
        rw [h2] at ih ⊢
        omega
end
theorem lwin_mono {n S C M S' C' M' : Int} {cs cs' : List Call} (sys : SysOk S C M n cs) (sys' : SysOk S' C' M' n cs') (hS : S ≤ 8) (hS' : S' ≤ 8) (hM : M ≤ 99) (L : Less cs' cs) (s : Int) : lwin cs' s ≤ lwin cs s := by
  have w0 := (lwin_rg sys hS hM s).1
  by_cases r : Reach cs' s
  · have r' := L.rch r
    refine (lwin_sprd sys' r w0).mp fun v hv => ?_
    obtain ⟨a, ha, b, hb, e⟩ := sprd_mem.mp hv
    obtain ⟨a1, a2, a3⟩ := into_mem.mp ha
    obtain ⟨b1, b2, b3⟩ := into_mem.mp hb
    obtain ⟨c, A1, A2, A3, A4, A5, A6, A7, A8⟩ := L a.1 a.2 a1
    obtain ⟨d, B1, B2, B3, B4, B5, B6, B7, B8⟩ := L b.1 b.2 b1
    unfold spB at e
    split at e
    · rename_i hne
      cases e
      have mono := gd_mono sys sys' (by omega) (by omega) L (a.2.c + b.2.c + 1).toNat a.2.c b.2.c (by have := a3.rg sys'; have := b3.rg sys'; omega) a3 b3
      have hin : gd cs c.c d.c + c.last + c.hi - d.first - d.lo ∈ sprd cs (gd cs) s := sprd_mem.mpr ⟨(a.1, c), into_mem.mpr ⟨A1, by rw [← A3, a2], by rw [← A2]; exact L.rch a3⟩, (b.1, d), into_mem.mpr ⟨B1, by rw [← B3, b2], by rw [← B2]; exact L.rch b3⟩, by
        unfold spB
        rw [if_pos]
        rcases hne with h | h
        · exact .inl h
        · exact .inr (A8 h)⟩
      have := (lwin_sprd sys r' w0).mpr (Int.le_refl _) _ hin
      rw [A2, B2] at mono ⊢
      omega
    · cases e
  · rw [lwin_none fun z => r z.1]
    exact w0
/-- the attempts of a call that are not dropped -/
def kept (k : Nat) (dr : List (Nat × Nat)) : Nat → List Int → List Int
  | _, [] => []
  | j, o :: os => if (k, j) ∈ dr then kept k dr (j + 1) os else o :: kept k dr (j + 1) os
theorem kept_sub (k : Nat) (dr : List (Nat × Nat)) : ∀ (os : List Int) (j : Nat), (kept k dr j os).Sublist os
  | [], j => List.Sublist.refl _
  | o :: os, j => by
    unfold kept
    split
    · exact (kept_sub k dr os (j + 1)).cons _
    · exact (kept_sub k dr os (j + 1)).cons₂ _
def cutC (dr : List (Nat × Nat)) (k : Nat) (c : Call) : Call := { c with offs := kept k dr 0 c.offs }
def woC (dr : List (Nat × Nat)) (cs : List Call) : List Call := cs.mapIdx (cutC dr)
def WoOk (dr : List (Nat × Nat)) (cs : List Call) : Prop := ∀ (k : Nat) (c : Call), cs[k]? = some c → kept k dr 0 c.offs ≠ []
theorem woC_get (dr : List (Nat × Nat)) (cs : List Call) (k : Nat) : (woC dr cs)[k]? = cs[k]?.map (cutC dr k) := by
  unfold woC
  rw [List.getElem?_mapIdx]
theorem woC_sys {n S C M : Int} {cs : List Call} (sys : SysOk S C M n cs) {dr : List (Nat × Nat)} (ok : WoOk dr cs) : SysOk S C M n (woC dr cs) := by
  refine ⟨sys.n1, sys.nS, by unfold woC; simpa using sys.len, fun c hc => ?_⟩
  obtain ⟨k, hk⟩ := List.mem_iff_getElem?.mp hc
  rw [woC_get] at hk
  cases e : cs[k]? with
  | none => rw [e] at hk; cases hk
  | some d =>
    rw [e] at hk
    cases hk
    have ok' := sys.cs d (List.mem_of_getElem? e)
    have sb := kept_sub k dr d.offs 0
    exact ⟨ok'.c0, ok'.ct, ok'.tn, ok k d e, Nat.le_trans sb.length_le ok'.le, ok'.up.sublist sb, fun o ho => ok'.rg o (sb.subset ho), ok'.lo0, ok'.lh, ok'.hM⟩
theorem last_mem {os : List Int} (ne : os ≠ []) : (os.getLast?).getD 0 ∈ os := by
  rw [List.getLast?_eq_some_getLast ne]
  exact List.getLast_mem ne
theorem up_last {os : List Int} (up : os.Pairwise (· < ·)) : ∀ o ∈ os, o ≤ (os.getLast?).getD 0 := by
  intro o ho
  have ne : os ≠ [] := fun z => by rw [z] at ho; cases ho
  rw [List.getLast?_eq_some_getLast ne]
  show o ≤ os.getLast ne
  have e := List.dropLast_concat_getLast ne
  rw [← e] at ho up
  rcases List.mem_append.mp ho with h | h
  · have := (List.pairwise_append.mp up).2.2 o h (os.getLast ne) (by simp)
    omega
  · simp at h
    omega
theorem up_first {os : List Int} (up : os.Pairwise (· < ·)) : ∀ o ∈ os, (os.head?).getD 0 ≤ o := by
  intro o ho
  cases os with
  | nil => cases ho
  | cons x l =>
    show x ≤ o
    rcases List.mem_cons.mp ho with rfl | h
    · exact Int.le_refl _
    · have := (List.pairwise_cons.mp up).1 o h
      omega
theorem woC_less {n S C M : Int} {cs : List Call} (sys : SysOk S C M n cs) {dr : List (Nat × Nat)} (ok : WoOk dr cs) : Less (woC dr cs) cs := fun k c' h => by
  rw [woC_get] at h
  cases e : cs[k]? with
  | none => rw [e] at h; cases h
  | some d =>
    rw [e] at h
    cases h
    have ok' := sys.cs d (List.mem_of_getElem? e)
    have sb := kept_sub k dr d.offs 0
    have ne := ok k d e
    have hd : (kept k dr 0 d.offs).head?.getD 0 ∈ kept k dr 0 d.offs := by
      cases q : kept k dr 0 d.offs with
      | nil => exact absurd q ne
      | cons x l => simp
    exact ⟨d, rfl, rfl, rfl, rfl, rfl, up_last ok'.up _ (sb.subset (last_mem ne)), up_first ok'.up _ (sb.subset hd), fun z => Nat.lt_of_lt_of_le z sb.length_le⟩
end G
end S_PT21
section S_Pwo_k16
set_option linter.all false
set_option maxRecDepth 100000
namespace G
open Dm
def drD (p : Nat × Nat) : D := .tup [.int (p.1 : Nat), .int (p.2 : Nat)]
theorem eqv_dr (p q : Nat × Nat) : eqv (drD p) (drD q) = decide (p = q) := by
  obtain ⟨a, b⟩ := p
  obtain ⟨c, d⟩ := q
  unfold drD
  by_cases h1 : a = c <;> by_cases h2 : b = d <;> simp [eqv, eqvL, h1, h2] <;> omega
theorem any_dr (q : Nat × Nat) : ∀ l : List (Nat × Nat), ((l.map drD).any fun z => eqv z (drD q)) = decide (q ∈ l)
  | [] => rfl
  | p :: l => by
    rw [List.map_cons, List.any_cons, any_dr q l, eqv_dr]
    by_cases h : p = q
    · subst h; simp
    · have : ¬ q = p := fun z => h z.symm
      simp [h, this]
theorem plain_dr (n : Nat) (p : Nat × Nat) : plain (n + 2) (drD p) = true := by simp [drD, plain, plainL]
theorem plainL_dr (n : Nat) : ∀ l : List (Nat × Nat), plainL (n + 2) (l.map drD) = true := fun l => plainL_of fun d hd => by
  obtain ⟨p, _, rfl⟩ := List.mem_map.mp hd
  exact plain_dr n p
theorem notin_dr {dr : List (Nat × Nat)} {k j : Nat} {h : Hd} {Q : QP} : oNotIn (.tup [.int (k : Nat), .int (j : Nat)]) (.lst (dr.map drD)) h Q ↔ Q (.bl (!decide ((k, j) ∈ dr))) h := by
  have e : D.tup [.int (k : Nat), .int (j : Nat)] = drD (k, j) := rfl
  rw [e]
  unfold oNotIn
  simp only [oIn]
  rw [any_dr]
  have p1 : plain 50 (drD (k, j)) = true := plain_dr 48 _
  have p2 : plainL 50 (dr.map drD) = true := plainL_dr 48 _
  rw [p1, p2]
  constructor
  · rintro ⟨_, _, b, e, q⟩
    cases e
    exact q
  · intro q
    exact ⟨rfl, rfl, _, rfl, q⟩
theorem eq_nil_tup {l : List Int} {h : Hd} {Q : QP} : oEq (.tup (l.map D.int)) (.tup []) h Q ↔ Q (.bl (decide (l = []))) h := by
  have p1 : plain 50 (.tup (l.map D.int)) = true := by
    have : plainL 49 (l.map D.int) = true := plainL_of fun d hd => by
      obtain ⟨i, _, rfl⟩ := List.mem_map.mp hd
      simp [plain]
    simp [plain, this]
  have e2 : eqv (.tup (l.map D.int)) (.tup []) = decide (l = []) := by cases l <;> simp [eqv, eqvL]
  unfold oEq
  simp [vw, p1, e2, plain, plainL]
theorem woC_snoc (dr : List (Nat × Nat)) (l : List Call) (c : Call) : woC dr (l ++ [c]) = woC dr l ++ [cutC dr l.length c] := by
  unfold woC
  rw [List.mapIdx_concat]
theorem WoOk.snoc {dr : List (Nat × Nat)} {l : List Call} {c : Call} (h : WoOk dr l) (hc : kept l.length dr 0 c.offs ≠ []) : WoOk dr (l ++ [c]) := fun k d e => by
  rw [List.getElem?_append] at e
  split at e
  · exact h k d e
  · rename_i hk
    by_cases z : k = l.length
    · subst z
      simp at e
      subst e
      exact hc
    · rw [List.getElem?_eq_none (by simp; omega)] at e
      cases e
set_option maxHeartbeats 0 in
theorem w_without {n S C M : Int} {cs : List Call} {dr : List (Nat × Nat)} {h : Hd} {E : XP} {Q : QP} (sys : SysOk S C M n cs) (hC : C ≤ 20) (q1 : WoOk dr cs → Q (sysD n (woC dr cs)) h) (q0 : ¬ WoOk dr cs → Q .non h) : sp_without_attempts [sysD n cs, .lst (dr.map drD)] h E Q := by
  refine ⟨rfl, ?_⟩
  have n1 := sys.n1
  have cl := sys.len
  unfold t_without_attempts
  rw [w_seq]
  simp [-w_seq, dstart]
  intro p hp
  rw [w_seq]
  simp [-w_seq]
  refine ix_sys1.mpr ?_
  dsimp only
  refine forL_ind (fun r s h' => ∃ dn rs : List Call, ∃ a3 a4 a5 a6 a7 a8 a9 a10 a11, r = enumD (dn.length : Nat) (rs.map Call.d) ∧ cs = dn ++ rs ∧ WoOk dr dn ∧ h' = up h p (.lst ((woC dr dn).map Call.d)) ∧ s = [some (sysD n cs), some (.lst (dr.map drD)), some (.ref p), a3, a4, a5, a6, a7, a8, a9, a10, a11]) ?_ ?_ _ _ _ ⟨[], cs, none, none, none, none, none, none, none, none, none, rfl, rfl, (fun k c e => by simp at e), rfl, rfl⟩
  · rintro d r s h' K hK ⟨dn, rs, a3, a4, a5, a6, a7, a8, a9, a10, a11, er, ew, ok, rfl, rfl⟩
    cases rs with
    | nil => cases er
    | cons c rs =>
      cases er
      have hc : c ∈ cs := by rw [ew]; simp
      have cok := sys.cs c hc
      have cle := cok.le
      simp [-w_seq, Call.d]
      rw [w_seq]
      simp [-w_seq]
      refine lcL_ind (fun r acc h'' => h'' = up h p (.lst ((woC dr dn).map Call.d)) ∧ ∃ (j : Nat) (rs2 A : List Int), r = enumD (j : Nat) (rs2.map D.int) ∧ acc = A.map D.int ∧ kept dn.length dr 0 c.offs = A ++ kept dn.length dr j rs2) ?_ ?_ _ _ _ ⟨rfl, 0, c.offs, [], rfl, rfl, rfl⟩
      · rintro d r acc h'' K2 hK2 ⟨rfl, j, rs2, A, er2, rfl, ek⟩
        cases rs2 with
        | nil => cases er2
        | cons o rs2 =>
          cases er2
          simp [wipe]
          refine ⟨by simp [lim], notin_dr.mpr ?_⟩
          have eu : kept dn.length dr j (o :: rs2) = if (dn.length, j) ∈ dr then kept dn.length dr (j + 1) rs2 else o :: kept dn.length dr (j + 1) rs2 := rfl
          rw [eu] at ek
          by_cases hm : (dn.length, j) ∈ dr
          · rw [if_pos hm] at ek
            rw [decide_eq_true hm]
            exact .inl ⟨rfl, hK2 _ _ ⟨rfl, j + 1, rs2, A, rfl, rfl, ek⟩⟩
          · rw [if_neg hm] at ek
            rw [decide_eq_false hm]
            refine .inr ⟨rfl, hK2 _ _ ⟨rfl, j + 1, rs2, A ++ [o], rfl, by simp, by rw [ek]; simp⟩⟩
      rintro acc h'' ⟨rfl, j, rs2, A, er2, rfl, ek⟩
      cases rs2 with
      | cons o rs2 => cases er2
      | nil =>
        have ek2 : kept dn.length dr 0 c.offs = A := by rw [ek]; simp [kept]
        subst ek2
        simp only [bTuple, sq]
        refine ⟨_, rfl, ?_⟩
        rw [w_seq]
        simp [-w_seq]
        refine eq_nil_tup.mpr ?_
        have ec : cs[dn.length]? = some c := by rw [ew]; simp
        by_cases hz : kept dn.length dr 0 c.offs = []
        · rw [decide_eq_true hz]
          refine .inr ⟨rfl, h, ?_, q0 fun z => z _ _ ec hz⟩
          exact (Sub.refl h).up hp
        · rw [decide_eq_false hz]
          refine .inl ⟨rfl, ?_⟩
          have wl : (woC dr dn).length = dn.length := by unfold woC; simp
          have dl : dn.length + 1 ≤ cs.length := by rw [ew]; simp
          simp [tyL, sqL, mApp]
          refine ⟨by simp [lim], by simp [lim]; omega, ?_⟩
          refine hK _ _ ⟨dn ++ [c], rs, some (.int (dn.length : Nat)), some (.int c.c), some (.int c.t), some (.tup (c.offs.map D.int)), some (.int c.lo), some (.int c.hi), some (.tup ((kept dn.length dr 0 c.offs).map D.int)), a10, a11, by simp, by rw [ew]; simp, ok.snoc hz, ?_, rfl⟩
          rw [woC_snoc]
          simp
          rfl
  · rintro s h' ⟨dn, rs, a3, a4, a5, a6, a7, a8, a9, a10, a11, er, ew, ok, rfl, rfl⟩
    cases rs with
    | cons c rs => cases er
    | nil =>
      rw [List.append_nil] at ew
      subst ew
      simp
      refine ix_sys0.mpr ?_
      simp [bTuple, sq, sqL]
      exact ⟨by simp [lim], h, (Sub.refl h).up hp, q1 ok⟩
end G
end S_Pwo_k16
section S_Preach_k16
set_option linter.all false
set_option maxRecDepth 100000
namespace G
open Dm
set_option maxHeartbeats 0 in
theorem w_reached {n S C M : Int} {cs : List Call} {h : Hd} {E : XP} {Q : QP} (sys : SysOk S C M n cs) (hC : C ≤ 20) (q : Q (.lst ((rch n cs).map D.int)) h) : sp_reached [sysD n cs] h E Q := by
  refine ⟨rfl, ?_⟩
  have cl := sys.len
  simp [t_reached, dstart, ix_sys1]
  intro p hp
  refine ⟨_, mkCall, rfl, by simp [mkCall, mkDep, mkDepL], fun ms e => by simp [mkCall] at e, by simp [mkCall], fun d hd => ?_, fun l' hl' => ?_⟩
  · obtain ⟨c, _, rfl⟩ := List.mem_map.mp hd
    exact c.mkOk
  · obtain ⟨hp1, hp2⟩ := hl'
    obtain ⟨L, rfl, hL⟩ := map_of_perm (fun a b => Call.d_inj) hp1
    have hsrt : L.Pairwise fun c d => c.c ≤ d.c := by
      rw [List.pairwise_map] at hp2
      exact hp2.imp fun h => call_lt h
    have hmem : ∀ c, c ∈ L ↔ c ∈ cs := fun c => hL.mem_iff
    have hlen : L.length = cs.length := hL.length_eq
    have e0 : up h p (.dct false [(.int 0, .bl true)]) = up h p (.dct false (trueD [0])) := rfl
    simp only [e0]
    refine forL_ind (fun r s h' => ∃ dn rs F a2 a3 a4 a5 a6, r = rs.map Call.d ∧ L = dn ++ rs ∧ Pass cs dn F ∧ h' = up h p (.dct false (trueD F)) ∧ s = [some (sysD n cs), some (.ref p), a2, a3, a4, a5, a6]) ?_ ?_ _ _ _ ⟨[], L, [0], _, _, _, _, _, rfl, rfl, ⟨by simp, by simp, fun s hs => by rw [List.mem_singleton.mp hs]; exact .zero, fun c hc => (by cases hc), by simp⟩, rfl, rfl⟩
    · rintro d r s h' K hK ⟨dn, rs, F, a2, a3, a4, a5, a6, hr, he, P, rfl, rfl⟩
      cases rs with
      | nil => simp at hr
      | cons c rs =>
        simp only [List.map_cons, List.cons.injEq] at hr
        obtain ⟨rfl, rfl⟩ := hr
        have hc : c ∈ cs := (hmem c).mp (by rw [he]; simp)
        have ok := sys.cs c hc
        rw [he] at hsrt
        have hs2 : ∀ d ∈ dn, d.c ≤ c.c := fun d hd => (List.pairwise_append.mp hsrt).2.2 d hd c List.mem_cons_self
        have P2 := P.step hc ok.ct hs2
        have hdl : dn.length ≤ L.length := by rw [he]; simp
        have hfl := P.len
        simp [Call.d, oIn, keyOk, lkD_true]
        by_cases h1 : c.c ∈ F
        · refine .inr ⟨h1, by simp [trueD, lim]; omega, ?_⟩
          rw [putD_true]
          rw [if_pos h1] at P2
          exact hK _ _ ⟨dn ++ [c], rs, _, _, _, _, _, _, rfl, by rw [he]; simp, P2, rfl, rfl⟩
        · rw [if_neg h1] at P2
          exact .inl ⟨by have := lkD_true c.c F; rw [decide_eq_false h1] at this; simpa using this, hK _ _ ⟨dn ++ [c], rs, F, _, _, _, _, _, rfl, by rw [he]; simp, P2, rfl, rfl⟩⟩
    · rintro s h' ⟨dn, rs, F, a2, a3, a4, a5, a6, hr, he, P, rfl, rfl⟩
      have hrs : rs = [] := by
        cases rs with
        | nil => rfl
        | cons _ _ => simp at hr
      subst hrs
      rw [List.append_nil] at he
      subst he
      have hfl := P.len
      simp only [w_ret, w_B, w_aCons, w_aNil, w_var, bSortedD]
      refine ⟨_, rfl, trueD F, F, by simp [dctAt], ?_, by simp [trueD]; omega, fun ms h1 h2 => ?_⟩
      · have : (trueD F).map (·.1) = F.map D.int := by simp [trueD, Function.comp_def]
        rw [this]
        exact intsOf_map F
      · have nd : ms.Nodup := h1.nodup_iff.mpr P.nd
        have e1 := eq_rch sys (up_of h2 nd) fun s => (h1.mem_iff).trans ⟨P.sub s, fun r => P.all (fun c hc => (hmem c).mpr hc) r⟩
        rw [e1]
        exact ⟨h, (Sub.refl h).up hp, q⟩
end G
end S_Preach_k16
section S_Ptab_k16
set_option linter.all false
set_option maxRecDepth 100000
namespace G
open Dm
theorem w_calls_into {n S C M : Int} {cs : List Call} {s : Int} {h : Hd} {E : XP} {Q : QP} (sys : SysOk S C M n cs) (hC : C ≤ 20) (q : Q (.lst ((into cs s).map inD)) h) : sp_calls_into [sysD n cs, .int s] h E Q := by
  refine ⟨rfl, ?_⟩
  simp [t_calls_into, dstart]
  refine w_reached sys hC ?_
  simp [ix_sys1]
  have e0 : enumD 0 (cs.map Call.d) = (enumC 0 cs).map inD := enum_enumC cs 0
  rw [e0]
  refine lcL_pure (ok := fun _ => True) (intoF cs s) _ True.intro ?_ (by
    rw [intoF_eq]
    exact ⟨h, Sub.refl h, q⟩)
  intro d hd Y N hy hn'
  obtain ⟨p, _, rfl⟩ := List.mem_map.mp hd
  simp [wipe, inD, Call.d, oIx, ixOk, ixP, oEq, vw, plain, eqv_int]
  by_cases h1 : p.2.t = s
  · refine .inr ⟨h1, (in_rch sys).mpr ?_⟩
    by_cases h2 : Reach cs p.2.c
    · rw [decide_eq_true h2]
      exact .inr ⟨rfl, by simp [lim], hy _ (by rw [intoF_inD, if_pos ⟨h1, h2⟩]; rfl)⟩
    · rw [decide_eq_false h2]
      exact .inl ⟨rfl, hn' (by rw [intoF_inD, if_neg (fun z => h2 z.2)])⟩
  · exact .inl ⟨h1, hn' (by rw [intoF_inD, if_neg (fun z => h1 z.1)])⟩
set_option maxHeartbeats 0 in
theorem w_later {n S C M : Int} {cs : List Call} {a b : Int} {p pg ps N : Nat} {F Fs : Int → Int → Option D} {h : Hd} {E : XP} {Q : QP} (sys : SysOk S C M n cs) (hC : C ≤ 20) (hS : S ≤ 100) (ra : Reach cs a) (hb : 0 ≤ b) (hab : b < a) (hN : N ≤ 1000)
    (ob : h p = some (tabF n cs pg ps)) (npg : p ≠ pg) (nps : p ≠ ps) (ngs : pg ≠ ps) (dg : DctAt h pg N F) (ds : DctAt h ps N Fs) (hF : ∀ x ∈ into cs a, F x.2.c b = some (.int (gd cs x.2.c b)))
    (q : ∀ h' m, Late cs a b m → DctAt h' pg (N + 1) (up2 F a b (.int (gd cs a b))) → DctAt h' ps (N + 1) (up2 Fs a b (msgL m)) → (∀ x, x ≠ pg → x ≠ ps → h' x = h x) → Q .non h') : sp_DifferenceTable_enter_later [.ref p, .int a, .int b] h E Q := by
  refine ⟨rfl, ?_⟩
  simp only [tabF] at ob
  unfold t_DifferenceTable_enter_later
  rw [w_seq]
  simp [-w_seq, dstart]
  rw [w_seq]
  simp [-w_seq, ob, lkF]
  refine w_calls_into sys hC ?_
  simp [-w_seq]
  refine forL_ind (fun r s h' => h' = h ∧ ∃ dn rs a4 a5 a6 a7 a8 a9 a10, r = rs.map inD ∧ into cs a = dn ++ rs ∧ s = [some (.ref p), some (.int a), some (.int b), some (bstD (vL (gd cs) b) msgL (dn.foldl (bstF (vL (gd cs) b)) none)), a4, a5, a6, a7, a8, a9, a10]) ?_ ?_ _ _ _ ⟨rfl, [], into cs a, _, _, _, _, _, _, _, rfl, rfl, rfl⟩
  · rintro d r s h' K hK ⟨rfl, dn, rs, a4, a5, a6, a7, a8, a9, a10, hr, he, rfl⟩
    cases rs with
    | nil => simp at hr
    | cons m rs =>
      simp only [List.map_cons, List.cons.injEq] at hr
      obtain ⟨rfl, rfl⟩ := hr
      have hm := into_split he
      obtain ⟨m1, m2, m3⟩ := into_mem.mp hm
      have ok := sys.cs m.2 (List.mem_of_getElem? m1)
      simp [inD, Call.d, ob, lkF]
      refine ⟨by simp [lim], ?_⟩
      refine (dg.get (hF m hm)).mpr ?_
      refine neg_int.mpr ?_
      refine (ix_tlast ok.ne).mpr ?_
      refine add_int.mpr ?_
      refine add_int.mpr ?_
      have hv : gd cs m.2.c b + (m.2.offs.getLast?).getD 0 + m.2.hi = vL (gd cs) b m := rfl
      rw [hv]
      have fin : ∀ x, x = bstD (vL (gd cs) b) msgL (bstF (vL (gd cs) b) (dn.foldl (bstF (vL (gd cs) b)) none) m) → K [some (.ref p), some (.int a), some (.int b), some x, some (.int (m.1 : Nat)), some (.int m.2.c), some (.int m.2.t), some (.tup (m.2.offs.map D.int)), some (.int m.2.lo), some (.int m.2.hi), some (.int (vL (gd cs) b m))] h' := by
        rintro x rfl
        exact hK _ _ ⟨rfl, dn ++ [m], rs, _, _, _, _, _, _, _, rfl, by rw [he]; simp, by rw [List.foldl_append]; rfl⟩
      cases hb' : dn.foldl (bstF (vL (gd cs) b)) none with
      | none =>
        rw [hb'] at fin
        simp [oIsN, isNon, bstD, bLen, sq, oSub, lim]
        exact fin _ rfl
      | some z =>
        rw [hb'] at fin
        simp [oIsN, isNon, bstD, bLen, sq, oSub, lim, oIx, ixOk, ixP, oGt]
        by_cases hz : vL (gd cs) b z < vL (gd cs) b m
        · refine .inr ⟨hz, fin _ ?_⟩
          simp [bstF, hz, bstD, msgL]
        · refine .inl ⟨by omega, fin _ ?_⟩
          simp [bstF, hz, bstD]
  · rintro s h' ⟨rfl, dn, rs, a4, a5, a6, a7, a8, a9, a10, hr, he, rfl⟩
    have hrs : rs = [] := by
      cases rs with
      | nil => rfl
      | cons _ _ => simp at hr
    subst hrs
    rw [List.append_nil] at he
    obtain ⟨m, lt⟩ := late sys hS ra hb hab
    have hm : dn.foldl (bstF (vL (gd cs) b)) none = some m := by rw [← he]; exact lt.at_
    have hv : vL (gd cs) b m = gd cs a b := lt.eq.symm
    rw [hm]
    simp [bstD, hv, ob, lkF, keyOk, key1]
    obtain ⟨l, hl, hl2, dg2⟩ := dg.put (a := a) (b := b) (v := .int (gd cs a b))
    refine ⟨by simp [lim], l, hl, by simp [lim]; omega, ?_⟩
    have ob2 : (up h' pg (.dct true (putD (.tup [.int a, .int b]) (.int (gd cs a b)) l))) p = some (tabF n cs pg ps) := by rw [up_ne npg]; exact ob
    have ds2 : DctAt (up h' pg (.dct true (putD (.tup [.int a, .int b]) (.int (gd cs a b)) l))) ps N Fs := ds.off (up_ne ngs.symm)
    have fr : ∀ x, x ≠ pg → x ≠ ps → (up h' pg (.dct true (putD (.tup [.int a, .int b]) (.int (gd cs a b)) l))) x = h' x := fun x x1 _ => up_ne x1
    generalize up h' pg (.dct true (putD (.tup [.int a, .int b]) (.int (gd cs a b)) l)) = h2 at dg2 ob2 ds2 fr ⊢
    simp only [tabF] at ob2
    simp [ob2, lkF]
    obtain ⟨l2, hl3, hl4, ds3⟩ := ds2.put (a := a) (b := b) (v := msgL m)
    refine ⟨by simp [lim], l2, hl3, by simp [lim]; omega, _, Sub.refl _, q _ m lt (dg2.off (up_ne ngs)) ds3 fun x x1 x2 => by rw [up_ne x2]; exact fr x x1 x2⟩
set_option maxHeartbeats 0 in
theorem w_earlier {n S C M : Int} {cs : List Call} {a b : Int} {p pg ps N : Nat} {F Fs : Int → Int → Option D} {h : Hd} {E : XP} {Q : QP} (sys : SysOk S C M n cs) (hC : C ≤ 20) (hS : S ≤ 100) (rb : Reach cs b) (ha : 0 ≤ a) (hab : a < b) (hN : N ≤ 1000)
    (ob : h p = some (tabF n cs pg ps)) (npg : p ≠ pg) (nps : p ≠ ps) (ngs : pg ≠ ps) (dg : DctAt h pg N F) (ds : DctAt h ps N Fs) (hF : ∀ x ∈ into cs b, F a x.2.c = some (.int (gd cs a x.2.c)))
    (q : ∀ h' m, Early cs a b m → DctAt h' pg (N + 1) (up2 F a b (.int (gd cs a b))) → DctAt h' ps (N + 1) (up2 Fs a b (msgE m)) → (∀ x, x ≠ pg → x ≠ ps → h' x = h x) → Q .non h') : sp_DifferenceTable_enter_earlier [.ref p, .int a, .int b] h E Q := by
  refine ⟨rfl, ?_⟩
  simp only [tabF] at ob
  unfold t_DifferenceTable_enter_earlier
  rw [w_seq]
  simp [-w_seq, dstart]
  rw [w_seq]
  simp [-w_seq, ob, lkF]
  refine w_calls_into sys hC ?_
  simp [-w_seq]
  refine forL_ind (fun r s h' => h' = h ∧ ∃ dn rs a4 a5 a6 a7 a8 a9 a10, r = rs.map inD ∧ into cs b = dn ++ rs ∧ s = [some (.ref p), some (.int a), some (.int b), some (bstD (vE (gd cs) a) msgE (dn.foldl (bstF (vE (gd cs) a)) none)), a4, a5, a6, a7, a8, a9, a10]) ?_ ?_ _ _ _ ⟨rfl, [], into cs b, _, _, _, _, _, _, _, rfl, rfl, rfl⟩
  · rintro d r s h' K hK ⟨rfl, dn, rs, a4, a5, a6, a7, a8, a9, a10, hr, he, rfl⟩
    cases rs with
    | nil => simp at hr
    | cons m rs =>
      simp only [List.map_cons, List.cons.injEq] at hr
      obtain ⟨rfl, rfl⟩ := hr
      have hm := into_split he
      obtain ⟨m1, m2, m3⟩ := into_mem.mp hm
      have ok := sys.cs m.2 (List.mem_of_getElem? m1)
      simp [inD, Call.d, ob, lkF]
      refine ⟨by simp [lim], ?_⟩
      refine (dg.get (hF m hm)).mpr ?_
      refine (ix_tfirst ok.ne).mpr ?_
      refine sub_int.mpr ?_
      refine sub_int.mpr ?_
      have hv : gd cs a m.2.c - (m.2.offs.head?).getD 0 - m.2.lo = vE (gd cs) a m := rfl
      rw [hv]
      have fin : ∀ x, x = bstD (vE (gd cs) a) msgE (bstF (vE (gd cs) a) (dn.foldl (bstF (vE (gd cs) a)) none) m) → K [some (.ref p), some (.int a), some (.int b), some x, some (.int (m.1 : Nat)), some (.int m.2.c), some (.int m.2.t), some (.tup (m.2.offs.map D.int)), some (.int m.2.lo), some (.int m.2.hi), some (.int (vE (gd cs) a m))] h' := by
        rintro x rfl
        exact hK _ _ ⟨rfl, dn ++ [m], rs, _, _, _, _, _, _, _, rfl, by rw [he]; simp, by rw [List.foldl_append]; rfl⟩
      cases hb' : dn.foldl (bstF (vE (gd cs) a)) none with
      | none =>
        rw [hb'] at fin
        simp [oIsN, isNon, bstD, lim]
        exact fin _ rfl
      | some z =>
        rw [hb'] at fin
        simp [oIsN, isNon, bstD, lim, oIx, ixOk, ixP, oGt]
        by_cases hz : vE (gd cs) a z < vE (gd cs) a m
        · refine .inr ⟨hz, fin _ ?_⟩
          simp [bstF, hz, bstD, msgE]
        · refine .inl ⟨by omega, fin _ ?_⟩
          simp [bstF, hz, bstD]
  · rintro s h' ⟨rfl, dn, rs, a4, a5, a6, a7, a8, a9, a10, hr, he, rfl⟩
    have hrs : rs = [] := by
      cases rs with
      | nil => rfl
      | cons _ _ => simp at hr
    subst hrs
    rw [List.append_nil] at he
    obtain ⟨m, lt⟩ := early sys hS rb ha hab
    have hm : dn.foldl (bstF (vE (gd cs) a)) none = some m := by rw [← he]; exact lt.at_
    have hv : vE (gd cs) a m = gd cs a b := lt.eq.symm
    rw [hm]
    simp [bstD, hv, ob, lkF, keyOk, key1]
    obtain ⟨l, hl, hl2, dg2⟩ := dg.put (a := a) (b := b) (v := .int (gd cs a b))
    refine ⟨by simp [lim], l, hl, by simp [lim]; omega, ?_⟩
    have ob2 : (up h' pg (.dct true (putD (.tup [.int a, .int b]) (.int (gd cs a b)) l))) p = some (tabF n cs pg ps) := by rw [up_ne npg]; exact ob
    have ds2 : DctAt (up h' pg (.dct true (putD (.tup [.int a, .int b]) (.int (gd cs a b)) l))) ps N Fs := ds.off (up_ne ngs.symm)
    have fr : ∀ x, x ≠ pg → x ≠ ps → (up h' pg (.dct true (putD (.tup [.int a, .int b]) (.int (gd cs a b)) l))) x = h' x := fun x x1 _ => up_ne x1
    generalize up h' pg (.dct true (putD (.tup [.int a, .int b]) (.int (gd cs a b)) l)) = h2 at dg2 ob2 ds2 fr ⊢
    simp only [tabF] at ob2
    simp [ob2, lkF]
    obtain ⟨l2, hl3, hl4, ds3⟩ := ds2.put (a := a) (b := b) (v := msgE m)
    refine ⟨by simp [lim], l2, hl3, by simp [lim]; omega, _, Sub.refl _, q _ m lt (dg2.off (up_ne ngs)) ds3 fun x x1 x2 => by rw [up_ne x2]; exact fr x x1 x2⟩
end G
end S_Ptab_k16
section S_Ptab2_k16
set_option linter.all false
set_option maxRecDepth 100000
namespace G
open Dm
set_option maxHeartbeats 0 in
theorem w_table {n S C M : Int} {cs : List Call} {p : Nat} {h : Hd} {E : XP} {Q : QP} (sys : SysOk S C M n cs) (hC : C ≤ 20) (hS : S ≤ 8) (hp : h p = some (.ins "DifferenceTable" []))
    (q : ∀ h' pg ps, TabAt n cs h' p pg ps → (∀ b o, b ≠ p → h b = some o → h' b = some o ∧ b ≠ pg ∧ b ≠ ps) → Q .non h') : sp_DifferenceTable___init__ [.ref p, sysD n cs] h E Q := by
  refine ⟨rfl, ?_⟩
  have nS := sys.nS
  have rl := rch_len n cs
  unfold t_DifferenceTable___init__
  rw [w_seq]
  simp [-w_seq, dstart, hp, putF]
  rw [w_seq]
  simp [-w_seq, putF]
  refine w_reached sys hC ?_
  simp [-w_seq, putF]
  rw [w_seq]
  simp [-w_seq, putF]
  intro pg hpg
  have npg : pg ≠ p := fun e => by subst e; simp at hpg
  have hpg0 : h pg = none := by rw [up_ne npg] at hpg; exact hpg
  simp [-w_seq, putF, up_ne npg.symm]
  rw [w_seq]
  simp [-w_seq, putF]
  intro ps hps
  have nps : ps ≠ p := fun e => by subst e; simp at hps
  have ngs : ps ≠ pg := fun e => by subst e; rw [up_ne npg] at hps; simp at hps
  have hps0 : h ps = none := by rw [up_ne nps, up_ne ngs, up_ne nps] at hps; exact hps
  simp [-w_seq, putF, up_ne nps.symm]
  refine ⟨.lst ((rch n cs).map D.int), by simp [lkF], ?_⟩
  have b1 : (up (up (up (up (up h p (.ins "DifferenceTable" [("system", sysD n cs), ("services", .lst ((rch n cs).map D.int))])) pg (.dct true [])) p (.ins "DifferenceTable" [("system", sysD n cs), ("services", .lst ((rch n cs).map D.int)), ("greatest", .ref pg)])) ps (.dct true [])) p (tabF n cs pg ps)) p = some (tabF n cs pg ps) := up_same _ _ _
  have b2 : (up (up (up (up (up h p (.ins "DifferenceTable" [("system", sysD n cs), ("services", .lst ((rch n cs).map D.int))])) pg (.dct true [])) p (.ins "DifferenceTable" [("system", sysD n cs), ("services", .lst ((rch n cs).map D.int)), ("greatest", .ref pg)])) ps (.dct true [])) p (tabF n cs pg ps)) pg = some (.dct true []) := by rw [up_ne npg, up_ne ngs.symm, up_ne npg, up_same]
  have b3 : (up (up (up (up (up h p (.ins "DifferenceTable" [("system", sysD n cs), ("services", .lst ((rch n cs).map D.int))])) pg (.dct true [])) p (.ins "DifferenceTable" [("system", sysD n cs), ("services", .lst ((rch n cs).map D.int)), ("greatest", .ref pg)])) ps (.dct true [])) p (tabF n cs pg ps)) ps = some (.dct true []) := by rw [up_ne nps, up_same]
  have b4 : ∀ x, x ≠ p → x ≠ pg → x ≠ ps → (up (up (up (up (up h p (.ins "DifferenceTable" [("system", sysD n cs), ("services", .lst ((rch n cs).map D.int))])) pg (.dct true [])) p (.ins "DifferenceTable" [("system", sysD n cs), ("services", .lst ((rch n cs).map D.int)), ("greatest", .ref pg)])) ps (.dct true [])) p (tabF n cs pg ps)) x = h x := fun x h1 h2 h3 => by rw [up_ne h1, up_ne h3, up_ne h1, up_ne h2, up_ne h1]
  change forL _ _ _ _ _ _ (up (up (up (up (up h p (.ins "DifferenceTable" [("system", sysD n cs), ("services", .lst ((rch n cs).map D.int))])) pg (.dct true [])) p (.ins "DifferenceTable" [("system", sysD n cs), ("services", .lst ((rch n cs).map D.int)), ("greatest", .ref pg)])) ps (.dct true [])) p (tabF n cs pg ps))
  generalize up (up (up (up (up h p (.ins "DifferenceTable" [("system", sysD n cs), ("services", .lst ((rch n cs).map D.int))])) pg (.dct true [])) p (.ins "DifferenceTable" [("system", sysD n cs), ("services", .lst ((rch n cs).map D.int)), ("greatest", .ref pg)])) ps (.dct true [])) p (tabF n cs pg ps) = h1 at b1 b2 b3 b4 ⊢
  have d1 : DctAt h1 pg 0 (fun _ _ => none) := ⟨[], b2, fun q hq => (by cases hq), fun a b => rfl, Nat.le_refl _⟩
  have d2 : DctAt h1 ps 0 (fun _ _ => none) := ⟨[], b3, fun q hq => (by cases hq), fun a b => rfl, Nat.le_refl _⟩
  refine forL_ind (fun r s h' => ∃ dn rs F Fs a2 a3 a4, r = rs.map D.int ∧ rch n cs = dn ++ rs ∧ h' p = some (tabF n cs pg ps) ∧ DctAt h' pg (17 * dn.length) F ∧ DctAt h' ps (17 * dn.length) Fs ∧ TI cs F Fs (fun a b => a ∈ dn ∧ b ∈ dn) ∧ (∀ x, x ≠ p → x ≠ pg → x ≠ ps → h' x = h x) ∧ s = [some (.ref p), some (sysD n cs), a2, a3, a4]) ?_ ?_ _ _ _ ⟨[], rch n cs, _, _, _, _, _, rfl, rfl, b1, d1, d2, ⟨fun a b h => (by cases h.1), fun a b _ => rfl, fun a b h => (by cases h.1)⟩, b4, rfl⟩
  · rintro d r s h' K hK ⟨dn, rs, F, Fs, a2, a3, a4, hr, he, ob, dg, ds, ti, fr, rfl⟩
    cases rs with
    | nil => simp at hr
    | cons x rs =>
      simp only [List.map_cons, List.cons.injEq] at hr
      obtain ⟨rfl, rfl⟩ := hr
      have up := rch_up n cs
      have xm : ∀ y, y ∈ rch n cs ↔ Reach cs y := fun y => rch_mem sys y
      have rx : Reach cs x := (xm x).mp (by rw [he]; simp)
      have rd : ∀ y ∈ dn, Reach cs y := fun y hy => (xm y).mp (by rw [he]; simp [hy])
      rw [he] at up
      have hlt : ∀ y ∈ dn, y < x := fun y hy => (List.pairwise_append.mp up).2.2 y hy x List.mem_cons_self
      have hdn : ∀ y, Reach cs y → y < x → y ∈ dn := fun y ry hy => by
        have h1 := (xm y).mpr ry
        rw [he] at h1
        rcases List.mem_append.mp h1 with z | z
        · exact z
        · rcases List.mem_cons.mp z with rfl | z
          · omega
          · have := (List.pairwise_cons.mp (List.pairwise_append.mp up).2.1).1 y z
            omega
      have hdl : dn.length + 1 ≤ (rch n cs).length := by rw [he]; simp
      have rgx := rx.rg sys
      simp only [tabF] at ob
      simp only [w_gN]
      rw [w_seq]
      simp [-w_seq, ob, lkF, keyOk, key1]
      obtain ⟨l, hl, hl2, dg2⟩ := dg.put (a := x) (b := x) (v := .int 0)
      refine ⟨by simp [lim], l, hl, by simp [lim]; omega, ?_⟩
      have ob2 : (Dm.up h' pg (.dct true (putD (.tup [.int x, .int x]) (.int 0) l))) p = some (tabF n cs pg ps) := by rw [up_ne npg.symm]; exact ob
      have ds2 : DctAt (Dm.up h' pg (.dct true (putD (.tup [.int x, .int x]) (.int 0) l))) ps (17 * dn.length + 1) Fs := (ds.off (up_ne ngs)).mono (by omega)
      have fr2 : ∀ y, y ≠ p → y ≠ pg → y ≠ ps → (Dm.up h' pg (.dct true (putD (.tup [.int x, .int x]) (.int 0) l))) y = h y := fun y y1 y2 y3 => by rw [up_ne y2]; exact fr y y1 y2 y3
      generalize Dm.up h' pg (.dct true (putD (.tup [.int x, .int x]) (.int 0) l)) = h2 at dg2 ob2 ds2 fr2 ⊢
      have ti2 := ti.putZ rx
      have ob3 := ob2
      simp only [tabF] at ob3
      simp [ob3, lkF]
      refine lcL_pure (ok := fun _ => True) (ltF x) _ True.intro ?_ ?_
      · intro d hd Y N hy hn'
        obtain ⟨y, _, rfl⟩ := List.mem_map.mp hd
        simp [wipe, oLt]
        by_cases hyx : y < x
        · exact .inr ⟨hyx, hy _ (by simp [ltF, hyx])⟩
        · exact .inl ⟨by omega, hn' (by simp [ltF, hyx])⟩
      · rw [ltF_eq, he, filter_lt up]
        refine forL_ind (fun r s h' => ∃ ys zs F Fs a3 a4, r = zs.map D.int ∧ dn = ys ++ zs ∧ h' p = some (tabF n cs pg ps) ∧ DctAt h' pg (17 * dn.length + 1 + 2 * ys.length) F ∧ DctAt h' ps (17 * dn.length + 1 + 2 * ys.length) Fs ∧ TI cs F Fs (fun a b => (a ∈ dn ∧ b ∈ dn) ∨ (a = x ∧ b = x) ∨ (a = x ∧ b ∈ ys) ∨ (a ∈ ys ∧ b = x)) ∧ (∀ x, x ≠ p → x ≠ pg → x ≠ ps → h' x = h x) ∧ s = [some (.ref p), some (sysD n cs), some (.int x), a3, a4]) ?_ ?_ _ _ _ ⟨[], dn, _, _, _, _, rfl, rfl, ob2, dg2, ds2, ti2.imp fun a b h => ?_, fr2, rfl⟩
        · rintro d r s h' K' hK' ⟨ys, zs, F, Fs, a3, a4, hr, hd, ob, dg, ds, ti, fr, rfl⟩
          cases zs with
          | nil => simp at hr
          | cons y zs =>
            simp only [List.map_cons, List.cons.injEq] at hr
            obtain ⟨rfl, rfl⟩ := hr
            have ym : y ∈ dn := by rw [hd]; simp
            have ry := rd y ym
            have rgy := ry.rg sys
            have hyx := hlt y ym
            have hyl : ys.length + 1 ≤ dn.length := by rw [hd]; simp
            have ob' := ob
            simp only [tabF] at ob'
            simp only [w_gN]
            rw [w_seq]
            simp [-w_seq, ob', lkF]
            refine w_later sys hC (by omega) rx rgy.1 hyx (by omega) ob npg.symm nps.symm ngs.symm dg ds (fun m hm => ?_) fun h3 m lt dg3 ds3 fr3 => ?_
            · obtain ⟨m1, m2, m3⟩ := into_mem.mp hm
              have ok := sys.cs m.2 (List.mem_of_getElem? m1)
              have := ok.ct
              exact ti.f _ _ (.inl ⟨hdn _ m3 (by omega), ym⟩)
            have ti3 := ti.put (v := msgL m) rx ry ⟨m, .inl ⟨hyx, lt, by simp [up2]⟩⟩
            have ob3 : h3 p = some (tabF n cs pg ps) := (fr3 p npg.symm nps.symm).trans ob
            have ob3' := ob3
            simp only [tabF] at ob3'
            simp [ob3', lkF]
            refine w_earlier sys hC (by omega) rx rgy.1 hyx (by omega) ob3 npg.symm nps.symm ngs.symm dg3 ds3 (fun m hm => ?_) fun h4 m' et dg4 ds4 fr4 => ?_
            · obtain ⟨m1, m2, m3⟩ := into_mem.mp hm
              have ok := sys.cs m.2 (List.mem_of_getElem? m1)
              have := ok.ct
              exact ti3.f _ _ (.inl (.inl ⟨ym, hdn _ m3 (by omega)⟩))
            have ti4 := ti3.put (v := msgE m') ry rx ⟨m', .inr ⟨hyx, et, by simp [up2]⟩⟩
            refine hK' _ _ ⟨ys ++ [y], zs, _, _, _, _, rfl, by rw [hd]; simp, (fr4 p npg.symm nps.symm).trans ob3, dg4.mono (by simp; omega), ds4.mono (by simp; omega), ti4.imp fun a b h => ?_, fun z z1 z2 z3 => by rw [fr4 z z2 z3, fr3 z z2 z3]; exact fr z z1 z2 z3, rfl⟩
            rcases h with h | h | h | h
            · exact .inl (.inl (.inl h))
            · exact .inl (.inl (.inr (.inl h)))
            · rcases List.mem_append.mp h.2 with z | z
              · exact .inl (.inl (.inr (.inr (.inl ⟨h.1, z⟩))))
              · exact .inl (.inr ⟨h.1, List.mem_singleton.mp z⟩)
            · rcases List.mem_append.mp h.1 with z | z
              · exact .inl (.inl (.inr (.inr (.inr ⟨z, h.2⟩))))
              · exact .inr ⟨List.mem_singleton.mp z, h.2⟩
        · rintro s h' ⟨ys, zs, F, Fs, a3, a4, hr, hd, ob, dg, ds, ti, fr, rfl⟩
          have hzs : zs = [] := by
            cases zs with
            | nil => rfl
            | cons _ _ => simp at hr
          subst hzs
          rw [List.append_nil] at hd
          subst hd
          refine hK _ _ ⟨dn ++ [x], rs, _, _, _, _, _, rfl, by rw [he]; simp, ob, dg.mono (by simp; omega), ds.mono (by simp; omega), ti.imp fun a b h => ?_, fr, rfl⟩
          obtain ⟨h1, h2⟩ := h
          rcases List.mem_append.mp h1 with z | z
          · rcases List.mem_append.mp h2 with w | w
            · exact .inl ⟨z, w⟩
            · exact .inr (.inr (.inr ⟨z, List.mem_singleton.mp w⟩))
          · rcases List.mem_append.mp h2 with w | w
            · exact .inr (.inr (.inl ⟨List.mem_singleton.mp z, w⟩))
            · exact .inr (.inl ⟨List.mem_singleton.mp z, List.mem_singleton.mp w⟩)
        · rcases h with h | h | h | h
          · exact .inl h
          · exact .inr h
          · exact absurd h.2 (by simp)
          · exact absurd h.1 (by simp)
  · rintro s h' ⟨dn, rs, F, Fs, a2, a3, a4, hr, he, ob, dg, ds, ti, fr, rfl⟩
    have hrs : rs = [] := by
      cases rs with
      | nil => rfl
      | cons _ _ => simp at hr
    subst hrs
    rw [List.append_nil] at he
    have hdl : dn.length ≤ 8 := by rw [← he]; omega
    refine ⟨h', Sub.refl _, q h' pg ps ⟨ob, ⟨F, Fs, dg.mono (by omega), ds.mono (by omega), ti.imp fun a b h => ?_⟩, npg.symm, nps.symm, ngs.symm⟩ fun b o hb hbo => ?_⟩
    · rw [← he]
      exact ⟨(rch_mem sys a).mpr h.1, (rch_mem sys b).mpr h.2⟩
    · have s1 : b ≠ pg := fun e => by subst e; rw [hpg0] at hbo; cases hbo
      have s2 : b ≠ ps := fun e => by subst e; rw [hps0] at hbo; cases hbo
      exact ⟨(fr b hb s1 s2).trans hbo, s1, s2⟩
end G
end S_Ptab2_k16
section S_Pwid_k16
set_option linter.all false
set_option maxRecDepth 100000
namespace G
open Dm
theorem TabAt.off3 {n : Int} {cs : List Call} {h h' : Hd} {p pg ps : Nat} (t : TabAt n cs h p pg ps) (e1 : h' p = h p) (e2 : h' pg = h pg) (e3 : h' ps = h ps) : TabAt n cs h' p pg ps := by
  obtain ⟨ob, ⟨F, Fs, d1, d2, ti⟩, n1, n2, n3⟩ := t
  exact ⟨e1.trans ob, ⟨F, Fs, d1.off e2, d2.off e3, ti⟩, n1, n2, n3⟩
theorem TabAt.up3 {n : Int} {cs : List Call} {h : Hd} {p pg ps q : Nat} {o : HObj} (t : TabAt n cs h p pg ps) (e : h q = none) : TabAt n cs (Dm.up h q o) p pg ps := by
  obtain ⟨F, Fs, ⟨l1, x1, _⟩, ⟨l2, x2, _⟩, _⟩ := t.g
  exact t.off3 (up_ne (ne_of_some t.ob e)) (up_ne (ne_of_some x1 e)) (up_ne (ne_of_some x2 e))
set_option maxHeartbeats 0 in
theorem w_pairs {n S C M : Int} {cs : List Call} {s : Int} {p pg ps : Nat} {h : Hd} {E : XP} {Q : QP} (sys : SysOk S C M n cs) (hC : C ≤ 20) (t : TabAt n cs h p pg ps) (q : (prs cs s).length ≤ 10000 → Q (.lst ((prs cs s).map Pr.d)) h) : sp_message_pairs [.ref p, .int s] h E Q := by
  refine ⟨rfl, ?_⟩
  have cl := sys.len
  have ob := t.ob
  simp only [tabF] at ob
  unfold t_message_pairs
  rw [w_seq]
  simp [-w_seq, dstart]
  intro pm hpm
  have npm := ne_of_some t.ob hpm
  have tm' : ∀ o, TabAt n cs (Dm.up h pm o) p pg ps := fun o => t.up3 hpm
  rw [w_seq]
  simp [-w_seq, up_ne npm, ob, lkF]
  refine w_calls_into sys hC ?_
  simp [-w_seq]
  have il : (into cs s).length ≤ 20 := by
    unfold into
    have h1 := List.length_filter_le (fun p : Nat × Call => decide (p.2.t = s) && decide (Reach cs p.2.c)) (enumC 0 cs)
    have h2 : ∀ (cs : List Call) (k : Nat), (enumC k cs).length = cs.length := by
      intro cs
      induction cs with
      | nil => intro k; rfl
      | cons c cs ih => intro k; simp [enumC, ih]
    rw [h2] at h1
    omega
  have ml : ∀ (p : Nat × Call) (os : List Int) (j : Nat), (mgO p j os).length = os.length := by
    intro p os
    induction os with
    | nil => intro j; rfl
    | cons o os ih => intro j; simp [mgO, ih]
  refine forL_ind (fun r s' h' => ∃ dn rs, ∃ A : List Mg, ∃ a3 a4 a5 a6 a7 a8 a9 a10, r = rs.map inD ∧ into cs s = dn ++ rs ∧ A = dn.flatMap (fun p => mgO p 0 p.2.offs) ∧ A.length ≤ 4 * dn.length ∧ h' = Dm.up h pm (.lst (A.map Mg.d)) ∧ s' = [some (.ref p), some (.int s), some (.ref pm), a3, a4, a5, a6, a7, a8, a9, a10, none, none, none, none, none, none, none, none, none]) ?_ ?_ _ _ _ ⟨[], into cs s, [], _, _, _, _, _, _, _, _, rfl, rfl, rfl, by simp, rfl, rfl⟩
  · rintro d r s' h' K hK ⟨dn, rs, A, a3, a4, a5, a6, a7, a8, a9, a10, hr, he, hA, hAl, rfl, rfl⟩
    cases rs with
    | nil => simp at hr
    | cons m rs =>
      simp only [List.map_cons, List.cons.injEq] at hr
      obtain ⟨rfl, rfl⟩ := hr
      have hm := into_split he
      obtain ⟨m1, m2, m3⟩ := into_mem.mp hm
      have ok := sys.cs m.2 (List.mem_of_getElem? m1)
      have o4 := ok.le
      have hdl : dn.length + 1 ≤ (into cs s).length := by rw [he]; simp
      simp [inD, Call.d]
      refine forL_ind (fun r s' h' => ∃ B j os, ∃ a9 a10, r = enumD (j : Nat) ((os : List Int).map D.int) ∧ B ++ mgO m j os = mgO m 0 m.2.offs ∧ h' = Dm.up h pm (.lst ((A ++ B).map Mg.d)) ∧ s' = [some (.ref p), some (.int s), some (.ref pm), some (.int (m.1 : Nat)), some (.int m.2.c), some (.int m.2.t), some (.tup (m.2.offs.map D.int)), some (.int m.2.lo), some (.int m.2.hi), a9, a10, none, none, none, none, none, none, none, none, none]) ?_ ?_ _ _ _ ⟨[], 0, m.2.offs, _, _, rfl, rfl, by simp, rfl⟩
      · rintro d r s' h' K' hK' ⟨B, j, os, a9, a10, hr, hB, rfl, rfl⟩
        cases os with
        | nil => simp [enumD] at hr
        | cons o os =>
          simp only [List.map_cons, enumD, List.cons.injEq] at hr
          obtain ⟨rfl, rfl⟩ := hr
          have ej : ((j : Nat) : Int) + 1 = ((j + 1 : Nat) : Int) := by omega
          have hbl := congrArg List.length hB
          rw [List.length_append, ml, ml] at hbl
          simp [tyL, sqL, oAdd, lim, mApp]
          refine ⟨by omega, hK' _ _ ⟨B ++ [⟨m.2.c, o + m.2.lo, o + m.2.hi, m.1, j⟩], j + 1, os, _, _, by rw [← ej], ?_, by simp [Mg.d, Mg.id], rfl⟩⟩
          rw [← hB]
          simp [mgO]
      · rintro s' h' ⟨B, j, os, a9, a10, hr, hB, rfl, rfl⟩
        have hos : os = [] := by
          cases os with
          | nil => rfl
          | cons _ _ => simp [enumD] at hr
        subst hos
        simp [mgO] at hB
        subst hB
        have hbl := ml m m.2.offs 0
        refine hK _ _ ⟨dn ++ [m], rs, A ++ mgO m 0 m.2.offs, _, _, _, _, _, _, _, _, rfl, by rw [he]; simp, by rw [hA]; simp, ?_, rfl, rfl⟩
        simp only [List.length_append, List.length_cons, List.length_nil]
        omega
  · rintro s' h' ⟨dn, rs, A, a3, a4, a5, a6, a7, a8, a9, a10, hr, he, hA, hAl, rfl, rfl⟩
    have hrs : rs = [] := by
      cases rs with
      | nil => rfl
      | cons _ _ => simp at hr
    subst hrs
    rw [List.append_nil] at he
    have hAm : A = mgs cs s := by rw [hA, ← he]; rfl
    subst hAm
    have mlen : (mgs cs s).length ≤ 80 := by rw [he] at il; omega
    show sSeq _ _ _ _ _
    rw [w_seq]
    simp [-w_seq]
    try rw [w_seq]
    try simp [-w_seq]
    intro pp hpp
    have npp : pp ≠ pm := fun e => by subst e; simp at hpp
    have hpp0 : h pp = none := by rw [up_ne npp] at hpp; exact hpp
    have tt : ∀ o, TabAt n cs (Dm.up (Dm.up h pm (.lst ((mgs cs s).map Mg.d))) pp o) p pg ps := fun o => (tm' _).up3 hpp
    have em : ∀ o, (Dm.up (Dm.up h pm (.lst ((mgs cs s).map Mg.d))) pp o) pm = some (.lst ((mgs cs s).map Mg.d)) := fun o => by rw [up_ne npp.symm, up_same]
    have rm' : ∀ m ∈ mgs cs s, Reach cs m.c := fun m hm => by
      obtain ⟨c, o, h1, h2, h3, h4, h5, _⟩ := mgs_mem.mp hm
      rw [h5]; exact h3
    rw [w_seq]
    simp [-w_seq, up_ne npp.symm]
    refine forL_ind (fun r s' h' => ∃ dn rs, ∃ A : List Pr, ∃ a12 a13 a14 a15 a16 a17 a18 a19, r = rs.map Mg.d ∧ mgs cs s = dn ++ rs ∧ A = dn.flatMap (fun a => (mgs cs s).filterMap (prB cs a)) ∧ A.length ≤ 80 * dn.length ∧ h' = Dm.up (Dm.up h pm (.lst ((mgs cs s).map Mg.d))) pp (.lst (A.map Pr.d)) ∧ s' = [some (.ref p), some (.int s), some (.ref pm), a3, a4, a5, a6, a7, a8, a9, a10, some (.ref pp), a12, a13, a14, a15, a16, a17, a18, a19]) ?_ ?_ _ _ _ ⟨[], mgs cs s, [], _, _, _, _, _, _, _, _, rfl, rfl, rfl, by simp, rfl, rfl⟩
    · rintro d r s' h' K hK ⟨dn, rs, A, a12, a13, a14, a15, a16, a17, a18, a19, hr, he2, hA, hAl, rfl, rfl⟩
      cases rs with
      | nil => simp at hr
      | cons a rs =>
        simp only [List.map_cons, List.cons.injEq] at hr
        obtain ⟨rfl, rfl⟩ := hr
        have ham : a ∈ mgs cs s := by rw [he2]; simp
        have hdl : dn.length + 1 ≤ (mgs cs s).length := by rw [he2]; simp
        simp [Mg.d, up_ne npp.symm]
        refine forL_ind (fun r s' h' => ∃ dn2 rs2, ∃ B : List Pr, ∃ a16 a17 a18 a19, r = rs2.map Mg.d ∧ mgs cs s = dn2 ++ rs2 ∧ B = dn2.filterMap (prB cs a) ∧ h' = Dm.up (Dm.up h pm (.lst ((mgs cs s).map Mg.d))) pp (.lst ((A ++ B).map Pr.d)) ∧ s' = [some (.ref p), some (.int s), some (.ref pm), a3, a4, a5, a6, a7, a8, a9, a10, some (.ref pp), some (.int a.c), some (.int a.f), some (.int a.l), some a.id, a16, a17, a18, a19]) ?_ ?_ _ _ _ ⟨[], mgs cs s, [], _, _, _, _, rfl, rfl, rfl, by simp [Mg.d], rfl⟩
        · rintro d r s' h' K' hK' ⟨dn2, rs2, B, a16, a17, a18, a19, hr, he3, hB, rfl, rfl⟩
          cases rs2 with
          | nil => simp at hr
          | cons b rs2 =>
            simp only [List.map_cons, List.cons.injEq] at hr
            obtain ⟨rfl, rfl⟩ := hr
            have hbm : b ∈ mgs cs s := by rw [he3]; simp
            have hbl : B.length ≤ dn2.length := by rw [hB]; exact List.length_filterMap_le _ _
            have hdl2 : dn2.length + 1 ≤ (mgs cs s).length := by rw [he3]; simp
            have T := tt (.lst ((A ++ B).map Pr.d))
            have ob2 := T.ob
            simp only [tabF] at ob2
            have eid : Dm.eqv a.id b.id = decide (a.k = b.k ∧ a.j = b.j) := by
              have := eqv_tups [(a.k : Int), (a.j : Int)] [(b.k : Int), (b.j : Int)]
              simp only [List.map_cons, List.map_nil] at this
              unfold Mg.id
              rw [this]
              refine decide_eq_decide.mpr ⟨fun z => ?_, fun z => by rw [z.1, z.2]⟩
              simp at z
              omega
            have pid : ∀ m : Mg, plain 50 m.id = true := fun m => by simp [Mg.id, plain, plainL]
            simp only [Mg.d, w_gTup, w_gCons, w_gN, w_gNil, List.set_cons_succ, List.set_cons_zero]
            refine ⟨rfl, ?_⟩
            simp only [w_if, w_tE, w_bin, w_var, List.getElem?_cons_succ, List.getElem?_cons_zero, Option.some.injEq, exists_eq_left']
            refine ⟨pid a, pid b, ?_⟩
            rw [show eqv (vw (Dm.up (Dm.up h pm (.lst ((mgs cs s).map Mg.d))) pp (.lst ((A ++ B).map Pr.d))) a.id) (vw (Dm.up (Dm.up h pm (.lst ((mgs cs s).map Mg.d))) pp (.lst ((A ++ B).map Pr.d))) b.id) = decide (a.k = b.k ∧ a.j = b.j) from eid]
            by_cases e : a.k = b.k ∧ a.j = b.j
            · rw [decide_eq_true e]
              refine ⟨false, rfl, ?_⟩
              simp
              refine ⟨em _, hK' _ _ ⟨dn2 ++ [b], rs2, B, _, _, _, _, rfl, by rw [he3]; simp, by rw [hB]; simp [prB, e], by simp, rfl⟩⟩
            · rw [decide_eq_false e]
              refine ⟨true, rfl, ?_⟩
              simp [tyL, sqL, -List.map_append]
              refine ⟨_, ob2, .ref pg, by simp [lkF], by simp [lim], (T.get (rm' a ham) (rm' b hbm)).mpr (add_int.mpr (sub_int.mpr ⟨by simp [lim], ?_⟩))⟩
              simp only [mApp]
              refine ⟨_, up_same _ _ _, ?_, ?_, hK' _ _ ⟨dn2 ++ [b], rs2, B ++ [⟨gd cs a.c b.c + a.l - b.f, a.k, a.j, b.k, b.j⟩], _, _, _, _, rfl, by rw [he3]; simp, ?_, by simp [Pr.d, Mg.id], rfl⟩⟩
              · have x1 : A.length ≤ 6400 := by omega
                simp [lim]; omega
              · rw [up_ne npp.symm]; exact em _
              · rw [hB]
                simp [prB, e]
        · rintro s' h' ⟨dn2, rs2, B, a16, a17, a18, a19, hr, he3, hB, rfl, rfl⟩
          have hrs : rs2 = [] := by
            cases rs2 with
            | nil => rfl
            | cons _ _ => simp at hr
          subst hrs
          rw [List.append_nil] at he3
          have hbl : B.length ≤ dn2.length := by rw [hB]; exact List.length_filterMap_le _ _
          rw [← he3] at hB hbl
          refine ⟨em _, hK _ _ ⟨dn ++ [a], rs, A ++ B, _, _, _, _, _, _, _, _, rfl, by rw [he2]; simp, by rw [hA, hB]; simp, ?_, rfl, rfl⟩⟩
          simp only [List.length_append, List.length_cons, List.length_nil]
          omega
    · rintro s' h' ⟨dn2, rs2, A, a12, a13, a14, a15, a16, a17, a18, a19, hr, he2, hA, hAl, rfl, rfl⟩
      have hrs : rs2 = [] := by
        cases rs2 with
        | nil => rfl
        | cons _ _ => simp at hr
      subst hrs
      rw [List.append_nil] at he2
      have hAp : A = prs cs s := by rw [hA, ← he2]; rfl
      have hAl2 : A.length ≤ 10000 := by rw [← he2] at hAl; omega
      rw [hAp] at hAl2 ⊢
      simp
      refine ⟨h, ?_, q hAl2⟩
      rw [rm_up _ _ _ (by rw [up_ne npp]; exact hpp0)]
      exact (Sub.refl h).up hpm
end G
end S_Pwid_k16
section S_Pwid2_k16
set_option linter.all false
set_option maxRecDepth 100000
namespace G
open Dm
set_option maxHeartbeats 0 in
theorem w_widest {n S C M : Int} {cs : List Call} {s : Int} {p pg ps : Nat} {h : Hd} {E : XP} {Q : QP} (sys : SysOk S C M n cs) (hC : C ≤ 20) (t : TabAt n cs h p pg ps) (q0 : prs cs s = [] → Q .non h) (q1 : ∀ w, Wide cs s w → Q w.d h) : sp_widest_pair [.ref p, .int s] h E Q := by
  refine ⟨rfl, ?_⟩
  unfold t_widest_pair
  rw [w_seq]
  simp [-w_seq, dstart]
  refine w_pairs sys hC t fun pl => ?_
  rw [w_seq]
  simp [-w_seq]
  have plp : plain 50 (.lst ((prs cs s).map Pr.d)) = true := by
    have : plainL 49 ((prs cs s).map Pr.d) = true := plainL_of fun d hd => by
      obtain ⟨x, _, rfl⟩ := List.mem_map.mp hd
      exact plain_pr x
    simp [plain, this]
  have e1 : eqv (.lst ((prs cs s).map Pr.d)) (.lst []) = decide (prs cs s = []) := by
    cases prs cs s <;> simp [eqv, eqvL]
  refine ⟨plp, by simp [vw, plain, plainL], ?_⟩
  rw [show eqv (vw h (.lst ((prs cs s).map Pr.d))) (vw h (.lst [])) = decide (prs cs s = []) from e1]
  by_cases hz : prs cs s = []
  · rw [decide_eq_true hz]
    exact .inr ⟨rfl, h, Sub.refl h, q0 hz⟩
  · rw [decide_eq_false hz]
    refine .inl ⟨rfl, ?_⟩
    rw [w_seq]
    simp [-w_seq]
    refine lcL_pure (ok := fun _ => True) spF _ True.intro ?_ ?_
    · intro d hd Y N hy _
      obtain ⟨x, _, rfl⟩ := List.mem_map.mp hd
      simp [wipe]
      exact (ix_tl (s := 0) (by omega) rfl).mpr (hy _ rfl)
    rw [spF_eq]
    refine ⟨((prs cs s).map (·.sp)).map D.int, .int, by simp only [sqL], by simpa using hz, by simp [mkDep], (fun d hd => ?_), fun d hd hmax => ?_⟩
    · obtain ⟨x, _, rfl⟩ := List.mem_map.mp hd
      rfl
    obtain ⟨m, hm, rfl⟩ := List.mem_map.mp hd
    obtain ⟨w0, hw0, rfl⟩ := List.mem_map.mp hm
    have hmx : ∀ x ∈ prs cs s, x.sp ≤ w0.sp := fun x hx => by
      have := hmax (.int x.sp) (List.mem_map.mpr ⟨x.sp, List.mem_map.mpr ⟨x, hx, rfl⟩, rfl⟩)
      simp [ltv] at this
      exact this
    refine lcL_pure (ok := fun _ => True) (eqF w0.sp) _ True.intro ?_ ?_
    · intro d hd Y N hy hn'
      obtain ⟨x, _, rfl⟩ := List.mem_map.mp hd
      have e : eqF w0.sp x.d = if x.sp = w0.sp then some x.d else none := rfl
      simp [wipe]
      refine (ix_tl (s := 0) (by omega) rfl).mpr ?_
      simp [oEq, vw, plain, eqv_int]
      by_cases hx : x.sp = w0.sp
      · exact .inr ⟨hx, hy _ (by rw [e, if_pos hx])⟩
      · exact .inl ⟨hx, hn' (by rw [e, if_neg hx])⟩
    rw [eqF_eq]
    refine ⟨((prs cs s).filter fun p => decide (p.sp = w0.sp)).map Pr.d, mkPr, by simp only [sqL], ?_, by simp [mkPr, mkDep, mkDepL], (fun d hd => ?_), fun d hd hmin => ?_⟩
    · intro z
      have : w0.d ∈ ((prs cs s).filter fun p => decide (p.sp = w0.sp)).map Pr.d := List.mem_map.mpr ⟨w0, List.mem_filter.mpr ⟨hw0, by simp⟩, rfl⟩
      rw [z] at this
      cases this
    · obtain ⟨x, _, rfl⟩ := List.mem_map.mp hd
      exact x.mkOk
    obtain ⟨w, hw, rfl⟩ := List.mem_map.mp hd
    obtain ⟨hw1, hw2⟩ := List.mem_filter.mp hw
    simp at hw2
    refine ⟨h, Sub.refl h, q1 w ⟨hw1, fun x hx => by rw [hw2]; exact hmx x hx, fun x hx hsp => hmin _ (List.mem_map.mpr ⟨x, List.mem_filter.mpr ⟨hx, by simp [hsp, hw2]⟩, rfl⟩)⟩⟩
set_option maxHeartbeats 0 in
theorem w_find {n S C M : Int} {cs : List Call} {p pg ps : Nat} {h : Hd} {E : XP} {Q : QP} (sys : SysOk S C M n cs) (hC : C ≤ 20) (hS : S ≤ 8) (t : TabAt n cs h p pg ps) (q : Q (.tup ((List.range n.toNat).map fun (i : Nat) => .int (lwin cs i))) h) : sp_find_least_windows [.ref p] h E Q := by
  refine ⟨rfl, ?_⟩
  have n1 := sys.n1
  have nS := sys.nS
  have ob := t.ob
  simp only [tabF] at ob
  unfold t_find_least_windows
  rw [w_seq]
  simp [-w_seq, dstart]
  intro pw hpw
  have npw := ne_of_some t.ob hpw
  rw [w_seq]
  simp [-w_seq, up_ne npw, ob, lkF]
  refine ix_sys0.mpr ⟨n, rfl, ⟨by omega, by omega⟩, ?_⟩
  refine forL_rng (I := fun k s h' => h' = up h pw (.lst ((List.range k).map fun (i : Nat) => .int (lwin cs i))) ∧ ∃ a2 a3, s = [some (.ref p), some (.ref pw), a2, a3]) ?_ ?_ ⟨rfl, _, _, rfl⟩
  · rintro k s h' K hk hK ⟨rfl, a2, a3, rfl⟩
    have T : TabAt n cs (up h pw (.lst ((List.range k).map fun (i : Nat) => .int (lwin cs i)))) p pg ps := t.up3 hpw
    have ob2 := T.ob
    simp only [tabF] at ob2
    have app : ∀ (v : Int) (x : D), v = lwin cs k → mApp (.ref pw) [.int v] (up h pw (.lst ((List.range k).map fun (i : Nat) => .int (lwin cs i)))) (fun _ h1 => K [some (.ref p), some (.ref pw), some (.int (k : Nat)), some x] h1) := by
      rintro v x rfl
      simp only [mApp]
      refine ⟨_, up_same _ _ _, by simp [lim]; omega, ?_⟩
      rw [up_up]
      exact hK _ _ ⟨by rw [List.range_succ, List.map_append]; rfl, _, _, rfl⟩
    have ty : tyL (.ref pw) (up h pw (.lst ((List.range k).map fun (i : Nat) => .int (lwin cs i)))) := ⟨(List.range k).map fun (i : Nat) => .int (lwin cs i), by simp only [sqL, up_same]⟩
    simp only [w_gN]
    rw [w_seq]
    simp [-w_seq, ob2, lkF]
    refine (in_rch sys).mpr ?_
    by_cases r : Reach cs k
    · rw [decide_eq_true r]
      refine .inr ⟨rfl, w_widest sys hC T (fun z => ?_) fun w hw => ?_⟩
      · refine ⟨ty, ?_⟩
        simp only [oIsN, isNon]
        exact .inr ⟨trivial, app 0 _ (lwin_none fun y => y.2 z).symm⟩
      · refine ⟨ty, ?_⟩
        simp only [oIsN, isNon, Pr.d]
        exact .inl ⟨trivial, (ix_tl (s := 0) (by omega) rfl).mpr (app _ _ (hw.eq r))⟩
    · rw [decide_eq_false r]
      refine .inl ⟨rfl, ty, ?_⟩
      simp only [oIsN, isNon]
      exact .inr ⟨trivial, app 0 _ (lwin_none fun y => r y.1).symm⟩
  · rintro s h' ⟨rfl, a2, a3, rfl⟩
    simp [bTuple, sq]
    exact ⟨h, (Sub.refl h).up hpw, q⟩
theorem w_least {n C M : Int} {cs : List Call} {h : Hd} {E : XP} {Q : QP} (sys : SysOk 8 C M n cs) (hC : C ≤ 20) (hM : M ≤ 99) (q : Q (.tup ((List.range n.toNat).map fun (i : Nat) => .int (lwin cs i))) h) : sp_least_windows [sysD n cs] h E Q := by
  refine ⟨rfl, ?_⟩
  simp [t_least_windows, dstart]
  refine w_check_system sys (by omega) hC hM ?_
  intro p hp
  refine w_table sys hC (by omega) (up_same _ _ _) fun h1 pg ps T fr => ⟨rfl, ?_⟩
  have sb : Sub h h1 := fun b o' hb => by
    have ne : b ≠ p := fun e => by subst e; rw [hp] at hb; cases hb
    exact (fr b o' ne (by rw [up_ne ne]; exact hb)).1
  exact w_find sys hC (by omega) T ⟨h, sb, q⟩
end G
end S_Pwid2_k16
section S_Pplan_k16
set_option linter.all false
set_option maxRecDepth 100000
namespace G
open Dm
def rowA (k : Nat) (c : Call) : List (Nat × Nat) := (List.range c.offs.length).map fun j => (k, j)
/-- all attempts -/
def attsL : Nat → List Call → List (Nat × Nat)
  | _, [] => []
  | k, c :: cs => rowA k c ++ attsL (k + 1) cs
theorem attsL_snoc (c : Call) : ∀ (l : List Call) (k : Nat), attsL k (l ++ [c]) = attsL k l ++ rowA (k + l.length) c
  | [], k => by simp [attsL]
  | x :: l, k => by
    have ih := attsL_snoc c l (k + 1)
    rw [List.cons_append, attsL, ih, attsL, List.length_cons, List.append_assoc]
    rw [show k + 1 + l.length = k + (l.length + 1) by omega]
theorem attsL_len {n S C M : Int} {cs : List Call} (sys : SysOk S C M n cs) : ∀ (l : List Call) (k : Nat), (∀ c ∈ l, c ∈ cs) → (attsL k l).length ≤ 4 * l.length
  | [], k, _ => by simp [attsL]
  | c :: l, k, h => by
    have ih := attsL_len sys l (k + 1) fun d hd => h d (List.mem_cons_of_mem _ hd)
    have := (sys.cs c (h c List.mem_cons_self)).le
    rw [attsL, List.length_append, List.length_cons]
    have : (rowA k c).length = c.offs.length := by simp [rowA]
    omega
theorem rowA_d (k : Nat) (c : Call) : (List.range c.offs.length).map (fun j => D.tup [.int (k : Nat), .int (j : Nat)]) = (rowA k c).map drD := by
  unfold rowA
  rw [List.map_map]
  rfl
theorem lc_dataP {f : Nat → D} {lo : Int} {n : Nat} {g : TG} {t : TT} {e : TE} {s : St} {Q : List D → Hd → Prop} {h : Hd} (hs : ∀ (i : Nat) (K : D → Hd → Prop) (N : Hd → Prop), i < n → K (f i) h → g (.int (lo + (i : Nat))) s h (fun _ _ => False) fun s2 h2 => t s2 h2 (fun _ _ => False) fun b h3 => if b = true then e s2 h3 (fun _ _ => False) K else N h3)
    (q : Q ((List.range n).map f) h) : lcL (fun _ => True) g t e s Q (rngD lo n) [] h := by
  refine lcL_rng (I := fun k acc h' => h' = h ∧ acc = (List.range k).map f) ?_ ?_ ⟨rfl, rfl⟩
  · rintro k acc h' K hk hK ⟨rfl, rfl⟩
    exact hs k (fun y h4 => True ∧ K ((List.range k).map f ++ [y]) h4) (fun h3 => True ∧ K ((List.range k).map f) h3) hk ⟨trivial, hK _ _ ⟨rfl, by rw [List.range_succ, List.map_append]; rfl⟩⟩
  · rintro acc h' ⟨rfl, rfl⟩
    exact q
set_option maxHeartbeats 0 in
theorem w_attempts {n S C M : Int} {cs : List Call} {h : Hd} {E : XP} {Q : QP} (sys : SysOk S C M n cs) (hC : C ≤ 20) (q : Q (.lst ((attsL 0 cs).map drD)) h) : sp_all_attempts [sysD n cs] h E Q := by
  refine ⟨rfl, ?_⟩
  have cl := sys.len
  unfold t_all_attempts
  simp [dstart]
  refine ix_sys1.mpr ?_
  dsimp only
  refine lcL2_ind (fun r acc h' => h' = h ∧ ∃ dn rs : List Call, r = enumD (dn.length : Nat) (rs.map Call.d) ∧ cs = dn ++ rs ∧ acc = (attsL 0 dn).map drD) ?_ ?_ _ _ _ ⟨rfl, [], cs, rfl, rfl, rfl⟩
  · rintro d r acc h' K hK ⟨rfl, dn, rs, er, ew, rfl⟩
    cases rs with
    | nil => cases er
    | cons c rs =>
      cases er
      have hc : c ∈ cs := by rw [ew]; simp
      have cle := (sys.cs c hc).le
      have al := attsL_len sys dn 0 (fun d hd => by rw [ew]; exact List.mem_append_left _ hd)
      have dl : dn.length + 1 ≤ cs.length := by rw [ew]; simp
      simp [wipe]
      refine ix_c2.mpr ?_
      simp only [bLen, sq]
      refine ⟨_, rfl, ?_⟩
      refine ⟨_, rfl, ⟨by omega, by rw [List.length_map]; omega⟩, ?_, ?_⟩
      · rw [List.length_map, Int.toNat_natCast]
        simp [lim]
        omega
      rw [List.length_map, Int.toNat_natCast]
      refine lc_dataP (f := fun j => D.tup [.int (dn.length : Nat), .int (j : Nat)]) (fun j K N hj k => ?_) ?_
      · simp [wipe]
        exact ⟨by simp [lim], k⟩
      refine hK _ _ ⟨rfl, dn ++ [c], rs, by simp, by rw [ew]; simp, ?_⟩
      rw [rowA_d, attsL_snoc, Nat.zero_add, List.map_append]
  · rintro acc h' ⟨rfl, dn, rs, er, ew, rfl⟩
    cases rs with
    | cons c rs => cases er
    | nil =>
      rw [List.append_nil] at ew
      subst ew
      exact ⟨h', Sub.refl h', q⟩
/-- the least windows of a system -/
noncomputable def lwD (n : Int) (cs : List Call) : D := .tup ((List.range n.toNat).map fun (i : Nat) => .int (lwin cs i))
open Classical in
noncomputable def effs (n : Int) (cs : List Call) (l : List (Nat × Nat)) : List D := l.filterMap fun a => if WoOk [a] cs then some (.tup [drD a, lwD n (woC [a] cs)]) else none
set_option maxHeartbeats 0 in
theorem w_drop {n C M : Int} {cs : List Call} {h : Hd} {E : XP} {Q : QP} (sys : SysOk 8 C M n cs) (hC : C ≤ 20) (hM : M ≤ 99) (q : Q (.lst (effs n cs (attsL 0 cs))) h) : sp_drop_effects [sysD n cs] h E Q := by
  refine ⟨rfl, ?_⟩
  have cl := sys.len
  unfold t_drop_effects
  rw [w_seq]
  simp [-w_seq, dstart]
  refine w_check_system sys (by omega) hC hM ?_
  rw [w_seq]
  simp [-w_seq]
  intro p hp
  rw [w_seq]
  simp [-w_seq]
  refine w_attempts sys hC ?_
  dsimp only
  have al := attsL_len sys cs 0 (fun d hd => hd)
  refine forL_ind (fun r s h' => (∀ b o, h b = some o → h' b = some o) ∧ ∃ dn rs : List (Nat × Nat), ∃ a2 a3, r = rs.map drD ∧ attsL 0 cs = dn ++ rs ∧ h' p = some (.lst (effs n cs dn)) ∧ s = [some (sysD n cs), some (.ref p), a2, a3]) ?_ ?_ _ _ _ ⟨fun b o hb => ?_, [], attsL 0 cs, none, none, rfl, rfl, up_same _ _ _, rfl⟩
  · rintro d r s h' K hK ⟨hs, dn, rs, a2, a3, er, ew, hp', rfl⟩
    cases rs with
    | nil => cases er
    | cons a rs =>
      cases er
      have dl : dn.length + 1 ≤ (attsL 0 cs).length := by rw [ew]; simp
      have el : (effs n cs dn).length ≤ dn.length := List.length_filterMap_le _ _
      simp [-w_seq]
      rw [w_seq]
      simp [-w_seq]
      refine ⟨by simp [lim], ?_⟩
      have e1 : D.lst [drD a] = .lst ([a].map drD) := rfl
      rw [e1]
      refine w_without sys hC (fun ok => ?_) fun nok => ?_
      · have sys' := woC_sys sys ok
        unfold oIsNotN
        refine .inr ⟨rfl, ⟨_, by simp only [sqL, hp']; rfl⟩, ?_⟩
        intro p1 hp1
        refine w_table sys' hC (by omega) (up_same _ _ _) fun h1 pg ps T fr => ⟨rfl, ?_⟩
        have sb : ∀ b o, h' b = some o → h1 b = some o := fun b o hb => by
          have ne : b ≠ p1 := fun e => by subst e; rw [hp1] at hb; cases hb
          exact (fr b o ne (by rw [up_ne ne]; exact hb)).1
        refine w_find sys' hC (by omega) T ?_
        refine ⟨by simp [lim], ?_⟩
        have hp2 := sb _ _ hp'
        refine ⟨_, hp2, by simp [lim]; omega, ?_⟩
        refine hK _ _ ⟨fun b o hb => ?_, dn ++ [a], rs, some (drD a), some (sysD n (woC [a] cs)), rfl, by rw [ew]; simp, ?_, rfl⟩
        · have ne : b ≠ p := fun e => by subst e; rw [hp] at hb; cases hb
          rw [up_ne ne]
          exact sb _ _ (hs b o hb)
        · rw [up_same]
          unfold effs
          rw [List.filterMap_append, List.filterMap_cons, if_pos ok]
          rfl
      · unfold oIsNotN
        refine .inl ⟨rfl, hK _ _ ⟨hs, dn ++ [a], rs, some (drD a), some .non, rfl, by rw [ew]; simp, ?_, rfl⟩⟩
        rw [hp']
        unfold effs
        rw [List.filterMap_append, List.filterMap_cons, if_neg nok]
        simp
  · rintro s h' ⟨hs, dn, rs, a2, a3, er, ew, hp', rfl⟩
    cases rs with
    | cons c rs => cases er
    | nil =>
      rw [List.append_nil] at ew
      subst ew
      dsimp only
      rw [w_seq]
      simp [-w_seq]
      refine ⟨_, hp', h, fun b o hb => ?_, q⟩
      have ne : b ≠ p := fun e => by subst e; rw [hp] at hb; cases hb
      show rm h' p b = some o
      rw [rm_ne ne]
      exact hs b o hb
  · have ne : b ≠ p := fun e => by subst e; rw [hp] at hb; cases hb
    rw [up_ne ne]
    exact hb
/-- all subsets -/
def subs (l : List (Nat × Nat)) : List (List (Nat × Nat)) := l.foldl (fun R a => R ++ R.map (· ++ [a])) [[]]
theorem subs_snoc (l : List (Nat × Nat)) (a : Nat × Nat) : subs (l ++ [a]) = subs l ++ (subs l).map (· ++ [a]) := by
  unfold subs
  rw [List.foldl_append]
  rfl
theorem subs_len : ∀ (k : Nat) (l : List (Nat × Nat)), l.length = k → (subs l).length = 2 ^ k ∧ ∀ s ∈ subs l, s.length ≤ k
  | 0, l, h => by
    have : l = [] := by simpa using h
    subst this
    simp [subs]
  | k + 1, l, h => by
    have ne : l ≠ [] := fun z => by subst z; simp at h
    have e := List.dropLast_concat_getLast ne
    have hl : l.dropLast.length = k := by simp; omega
    obtain ⟨h1, h2⟩ := subs_len k l.dropLast hl
    rw [← e, subs_snoc]
    refine ⟨by rw [List.length_append, List.length_map, h1, Nat.pow_succ]; omega, fun s hs => ?_⟩
    rcases List.mem_append.mp hs with z | z
    · have := h2 s z; omega
    · obtain ⟨t, ht, rfl⟩ := List.mem_map.mp z
      have := h2 t ht
      simp
      omega
def sbD (s : List (Nat × Nat)) : D := .lst (s.map drD)
def szD (s : List (Nat × Nat)) : D := .tup [.int (s.length : Nat), sbD s]
theorem perm_lift {α β : Type} {f : α → β} : ∀ {l' M : List β}, l'.Perm M → ∀ L : List α, M = L.map f → ∃ S : List α, S.Perm L ∧ l' = S.map f := by
  intro l' M h
  induction h with
  | nil => intro L e; cases L with
    | nil => exact ⟨[], .nil, rfl⟩
    | cons a L => cases e
  | cons x h ih =>
    intro L e
    cases L with
    | nil => cases e
    | cons a L =>
      cases e
      obtain ⟨S, h1, rfl⟩ := ih L rfl
      exact ⟨a :: S, h1.cons a, rfl⟩
  | swap x y l =>
    intro L e
    cases L with
    | nil => cases e
    | cons a L =>
      cases L with
      | nil => cases e
      | cons b L =>
        cases e
        exact ⟨b :: a :: L, .swap _ _ _, rfl⟩
  | trans h1 h2 ih1 ih2 =>
    intro L e
    obtain ⟨S, s1, s2⟩ := ih2 L e
    obtain ⟨T, t1, t2⟩ := ih1 S s2
    exact ⟨T, t1.trans s1, t2⟩
theorem mkA_dr : ∀ s : List (Nat × Nat), mkOkA (.tup [.int, .int]) (s.map drD) = true
  | [] => by simp [mkOkA]
  | a :: s => by
    rw [List.map_cons, mkOkA, mkA_dr s]
    rfl
def szM : Mk := .tup [.int, .lsts (.tup [.int, .int])]
theorem szM_ok (s : List (Nat × Nat)) : mkOk szM (szD s) = true := by
  show mkOkL [.int, .lsts (.tup [.int, .int])] [.int (s.length : Nat), sbD s] = true
  unfold sbD
  rw [mkOkL, mkOkL, mkOkL, mkOk, mkOk, mkA_dr]
  rfl
def sndW : D → Option D
  | .tup [_, b] => some b
  | _ => none
theorem sndW_map : ∀ S : List (List (Nat × Nat)), (S.map szD).filterMap sndW = S.map sbD
  | [] => rfl
  | s :: S => by
    have e : sndW (szD s) = some (sbD s) := rfl
    rw [List.map_cons, List.filterMap_cons, e]
    simp only
    rw [sndW_map S]
    rfl
def lenW (f : D → D) : D → Option D := fun d => some (f d)
theorem fm_some {α β γ : Type} {f : β → Option γ} {g : α → β} {k : α → γ} (h : ∀ a, f (g a) = some (k a)) : ∀ l : List α, (l.map g).filterMap f = l.map k
  | [] => rfl
  | a :: l => by
    rw [List.map_cons, List.filterMap_cons, h a]
    simp only
    rw [fm_some h l]
    rfl
def lenF : D → Option D
  | .lst l => some (.tup [.int (l.length : Nat), .lst l])
  | _ => none
def appF (a : Nat × Nat) : D → Option D
  | .lst l => some (.lst (l ++ [drD a]))
  | _ => none
end G
end S_Pplan_k16
section S_PmsgH_k16
set_option linter.all false
set_option maxRecDepth 100000
namespace G
open Dm
theorem TabAt.off {n : Int} {cs : List Call} {h h' : Hd} {p pg ps : Nat} (t : TabAt n cs h p pg ps) (e1 : h' p = h p) (e2 : h' pg = h pg) (e3 : h' ps = h ps) : TabAt n cs h' p pg ps := by
  obtain ⟨ob, ⟨F, Fs, d1, d2, ti⟩, n1, n2, n3⟩ := t
  exact ⟨e1.trans ob, ⟨F, Fs, d1.off e2, d2.off e3, ti⟩, n1, n2, n3⟩
theorem TabAt.up1 {n : Int} {cs : List Call} {h : Hd} {p pg ps q : Nat} {o : HObj} (t : TabAt n cs h p pg ps) (e : h q = none) : TabAt n cs (Dm.up h q o) p pg ps := by
  obtain ⟨F, Fs, ⟨l1, x1, _⟩, ⟨l2, x2, _⟩, _⟩ := t.g
  exact t.off (up_ne (ne_of_some t.ob e)) (up_ne (ne_of_some x1 e)) (up_ne (ne_of_some x2 e))
theorem ix_int0 {i : Int} {n : Int} {cs : List Call} {k : Nat} {c : Call} {h : Hd} {Q : QP} (e : cs[k]? = some c) (q : Q (.int c.c) h) : oIx (sysD n cs) (.int 1) h fun x h1 => oIx x (.int (k : Nat)) h1 fun y h2 => oIx y (.int 0) h2 Q :=
  ix_sys1.mpr ((ix_calls e).mpr (ix_c0.mpr q))
theorem msgL_d (m : Nat × Call) : (Msg.d (true, m)) = msgL m := rfl
theorem msgE_d (m : Nat × Call) : (Msg.d (false, m)) = msgE m := rfl
set_option maxHeartbeats 0 in
theorem w_messages {n S C M : Int} {cs : List Call} {a b : Int} {p pg ps : Nat} {h : Hd} {E : XP} {Q : QP} (sys : SysOk S C M n cs) (hS : S ≤ 8) (t : TabAt n cs h p pg ps) (ra : Reach cs a) (rb : Reach cs b)
    (q : ∀ p3 l, h p3 = none → MF cs a b l → l.length ≤ 1000 → Q (.ref p3) (Dm.up h p3 (.lst (l.map Msg.d)))) : sp_DifferenceTable_messages_for [.ref p, .int a, .int b] h E Q := by
  refine ⟨rfl, ?_⟩
  have nS := sys.nS
  have ga := ra.rg sys
  have gb := rb.rg sys
  unfold t_DifferenceTable_messages_for
  rw [w_seq]
  simp [-w_seq, dstart]
  intro p3 hp3
  have T3 : ∀ o, TabAt n cs (Dm.up h p3 o) p pg ps := fun o => t.up1 hp3
  rw [w_seq]
  refine while_ind (fun k s h' => ∃ late early acc a4 a5 a6, h' = Dm.up h p3 (.lst ((acc : List Msg).map Msg.d)) ∧ Reach cs late ∧ Reach cs early ∧ (∀ l, MF cs late early l → MF cs a b (acc ++ l)) ∧ k = (late + early).toNat ∧ acc.length + k ≤ 16 ∧ s = [some (.ref p), some (.int late), some (.int early), some (.ref p3), a4, a5, a6]) ?_ ⟨a, b, [], none, none, none, rfl, ra, rb, fun l h => h, rfl, by simp; omega, rfl⟩
  rintro k s h' K hK ⟨late, early, acc, a4, a5, a6, rfl, rl, re, hm, rfl, hl, rfl⟩
  have gl := rl.rg sys
  have ge := re.rg sys
  have ob := (T3 (.lst (acc.map Msg.d))).ob
  simp only [tabF] at ob
  simp [-w_seq, oNe, vw, plain, eqv_int]
  by_cases hle : late = early
  · refine .inl ⟨hle, ?_⟩
    subst hle
    rw [w_seq]
    refine while_ind (fun k s h' => ∃ x y acc a4 a5 a6, h' = Dm.up h p3 (.lst ((acc : List Msg).map Msg.d)) ∧ Reach cs x ∧ (∀ l, MF cs x x l → MF cs a b (acc ++ l)) ∧ k = x.toNat ∧ acc.length + k ≤ 16 ∧ s = [some (.ref p), some (.int x), y, some (.ref p3), a4, a5, a6]) ?_ ⟨late, _, acc, a4, a5, a6, rfl, rl, hm, rfl, by omega, rfl⟩
    rintro k s h' K hK ⟨x, y, acc, a4, a5, a6, rfl, rx, hm, rfl, hl, rfl⟩
    have gx := rx.rg sys
    have T := T3 (.lst (acc.map Msg.d))
    have ob := T.ob
    simp only [tabF] at ob
    simp [-w_seq, oNe, vw, plain, eqv_int]
    by_cases hx0 : x = 0
    · refine .inl ⟨hx0, ?_⟩
      subst hx0
      have := hm [] .done
      rw [List.append_nil] at this
      exact ⟨_, Sub.refl _, q p3 acc hp3 this (by omega)⟩
    · refine .inr ⟨hx0, ?_⟩
      have hst : ∃ m, Late cs x 0 m ∧ ∀ Q : QP, (oIx (.ref ps) (.tup [.int x, .int 0]) (Dm.up h p3 (.lst (acc.map Msg.d))) Q ↔ Q (msgL m) (Dm.up h p3 (.lst (acc.map Msg.d)))) := by
        obtain ⟨m, h1 | h1⟩ := T.step rx .zero hx0
        · exact ⟨m, h1.2⟩
        · exact absurd h1.1 (by omega)
      obtain ⟨m, h3, h4⟩ := hst
      obtain ⟨m1, m2, m3⟩ := into_mem.mp h3.mem
      have ok := sys.cs m.2 (List.mem_of_getElem? m1)
      have := ok.ct
      have := ok.c0
      rw [w_seq]
      simp [-w_seq, ob, lkF]
      refine ⟨by simp [lim], (h4 _).mpr ?_⟩
      simp [-w_seq, msgL]
      rw [w_seq]
      simp [-w_seq, tyL, sqL, mApp, lim]
      refine ⟨by omega, ?_⟩
      have ob2 : (Dm.up h p3 (.lst (acc.map Msg.d ++ [D.tup [.int (m.1 : Nat), .int ((m.2.offs.length : Int) - 1), .int m.2.hi]]))) p = some (tabF n cs pg ps) := (T3 _).ob
      simp only [tabF] at ob2
      simp [ob2, lkF]
      refine ix_int0 (i := 0) m1 ?_
      refine hK _ _ _ (by omega) ⟨m.2.c, _, acc ++ [(true, m)], _, _, _, by simp [msgL_d, msgL], m3, fun l hl' => ?_, rfl, by simp; omega, rfl⟩
      rw [List.append_assoc]
      exact hm _ (.back hx0 h3.mem hl')
  · refine .inr ⟨hle, ?_⟩
    have T := T3 (.lst (acc.map Msg.d))
    obtain ⟨m, h1 | h1⟩ := T.step rl re hle
    · obtain ⟨h2, h3, h4⟩ := h1
      obtain ⟨m1, m2, m3⟩ := into_mem.mp h3.mem
      have ok := sys.cs m.2 (List.mem_of_getElem? m1)
      have := ok.ct
      have := ok.c0
      rw [w_seq]
      simp [-w_seq, ob, lkF]
      refine ⟨by simp [lim], (h4 _).mpr ?_⟩
      simp [-w_seq, msgL]
      rw [w_seq]
      simp [-w_seq, tyL, sqL, mApp, lim]
      refine ⟨by omega, ?_⟩
      have ob2 : (Dm.up h p3 (.lst (acc.map Msg.d ++ [D.tup [.int (m.1 : Nat), .int ((m.2.offs.length : Int) - 1), .int m.2.hi]]))) p = some (tabF n cs pg ps) := (T3 _).ob
      simp only [tabF] at ob2
      simp [ob2, lkF, oGt]
      refine .inr ⟨h2, ix_int0 (i := 0) m1 ?_⟩
      refine hK _ _ _ (by omega) ⟨m.2.c, early, acc ++ [(true, m)], _, _, _, by simp [msgL_d, msgL], m3, re, fun l hl' => ?_, rfl, by simp; omega, rfl⟩
      rw [List.append_assoc]
      exact hm _ (.lt h2 h3 hl')
    · obtain ⟨h2, h3, h4⟩ := h1
      obtain ⟨m1, m2, m3⟩ := into_mem.mp h3.mem
      have ok := sys.cs m.2 (List.mem_of_getElem? m1)
      have := ok.ct
      have := ok.c0
      rw [w_seq]
      simp [-w_seq, ob, lkF]
      refine ⟨by simp [lim], (h4 _).mpr ?_⟩
      simp [-w_seq, msgE]
      rw [w_seq]
      simp [-w_seq, tyL, sqL, mApp, lim]
      refine ⟨by omega, ?_⟩
      have ob2 : (Dm.up h p3 (.lst (acc.map Msg.d ++ [D.tup [.int (m.1 : Nat), .int 0, .int m.2.lo]]))) p = some (tabF n cs pg ps) := (T3 _).ob
      simp only [tabF] at ob2
      simp [ob2, lkF, oGt]
      refine .inl ⟨by omega, ix_int0 (i := 0) m1 ?_⟩
      refine hK _ _ _ (by omega) ⟨late, m.2.c, acc ++ [(false, m)], _, _, _, by simp [msgE_d, msgE], rl, m3, fun l hl' => ?_, rfl, by simp; omega, rfl⟩
      rw [List.append_assoc]
      exact hm _ (.el h2 h3 hl')
end G
end S_PmsgH_k16
section S_Pwin_k16
set_option linter.all false
set_option maxRecDepth 100000
namespace G
open Dm
theorem w_check_windows {n : Int} {cs : List D} {ws : List Int} {h : Hd} {E : XP} {Q : QP} (hl : (ws.length : Int) = n) (hw : ∀ w ∈ ws, 0 ≤ w ∧ w ≤ 9999) (q : Q .non h) : sp_check_windows [.tup [.int n, .tup cs], .tup (ws.map D.int)] h E Q := by
  refine ⟨rfl, ?_⟩
  simp [t_check_windows, dstart, bIsi, isTy, tyNm, tyNms]
  refine forL_all (ok := fun _ => True) (fun s => ∃ a b, s = [some (.tup [.int n, .tup cs]), some (.tup (ws.map D.int)), a, b]) True.intro ?_ ⟨none, none, rfl⟩ ?_
  · rintro d hd s K ⟨a, b, rfl⟩ hK
    obtain ⟨j, x, hj, rfl⟩ := enum_mem _ _ _ hd
    rw [List.getElem?_map] at hj
    cases hk : ws[j]? with
    | none => simp [hk] at hj
    | some k =>
      simp [hk] at hj
      subst hj
      have hjl : j < ws.length := (List.getElem?_eq_some_iff.mp hk).1
      obtain ⟨r1, r2⟩ := hw k (List.mem_of_getElem? hk)
      simp [oEq, vw, plain, eqv, oIx, ixOk, ixP]
      refine ⟨by omega, w_is_integer ⟨by simp; omega, hK _ ⟨_, _, rfl⟩⟩⟩
  · rintro s ⟨a, b, rfl⟩
    simp [bLen, sq, oIx, ixOk, ixP, oLt]
    exact ⟨by omega, h, Sub.refl h, q⟩
end G
end S_Pwin_k16
section S_Pdbl_k16
set_option linter.all false
set_option maxRecDepth 100000
namespace G
open Dm
def kjd (e : Ent) : D := .tup [.int (e.k : Nat), .int (e.j : Nat), .int e.dl]
theorem kjd_msg {m : Msg} (h : m.2.2.offs ≠ []) : m.d = kjd m.ent := by
  have hl : 0 < m.2.2.offs.length := List.length_pos_iff.mpr h
  have e : ((m.2.2.offs.length - 1 : Nat) : Int) = (m.2.2.offs.length : Int) - 1 := by omega
  unfold Msg.d Msg.ent kjd
  split
  · simp [msgL, e]
  · simp [msgE]
theorem kjd_ents {E : List Ent} (z : ∀ e ∈ E, e.r = 0 ∧ e.a = 0) : (E.map kjd).filterMap entF = E.map Ent.d := by
  induction E with
  | nil => rfl
  | cons e E ih =>
    obtain ⟨z1, z2⟩ := z e List.mem_cons_self
    rw [List.map_cons, List.filterMap_cons, List.map_cons]
    have : entF (kjd e) = some e.d := by simp [entF, kjd, Ent.d, z1, z2]
    rw [this]
    simp only
    rw [ih fun x hx => z x (List.mem_cons_of_mem _ hx)]
theorem w_schedule_ofE {n S C M : Int} {cs : List Call} {E0 : List Ent} {p : Nat} {h : Hd} {E : XP} {Q : QP} (sys : SysOk S C M n cs) (hM : M ≤ 99) (hp : h p = some (.lst (E0.map kjd))) (ok : ∀ e ∈ E0, e.r = 0 ∧ e.a = 0 ∧ ∃ c, cs[e.k]? = some c ∧ e.j < c.offs.length ∧ c.lo ≤ e.dl ∧ e.dl ≤ c.hi) (df : E0.Pairwise fun e f => ¬ (e.k = f.k ∧ e.j = f.j))
    (q : ∀ es, SchOk n 1 cs es → es.Perm E0 → Q (.lst (es.map Ent.d)) h) : sp_schedule_of [.ref p] h E Q := by
  refine ⟨rfl, ?_⟩
  simp [t_schedule_of, dstart, hp]
  refine lcL_pure entF _ hp ?_ ?_
  · intro d hd Y N hy _
    obtain ⟨e, he, rfl⟩ := List.mem_map.mp hd
    simp [wipe, kjd, lim]
    exact hy _ rfl
  · rw [kjd_ents fun e he => ⟨(ok e he).1, (ok e he).2.1⟩]
    refine ⟨_, mk5, rfl, by simp [mk5, mkDep, mkDepL], (fun ms e => by simp [mk5] at e), by simp [mk5], (fun d hd => ?_), fun l' hl' => ?_⟩
    · obtain ⟨e, _, rfl⟩ := List.mem_map.mp hd
      exact e.mk5
    · obtain ⟨hp1, hp2⟩ := hl'
      obtain ⟨es, rfl, hpp⟩ := map_of_perm (fun a b => Ent.d_inj) hp1
      rw [List.pairwise_map] at hp2
      exact ⟨h, Sub.refl h, q es (ents_sch sys hM ok df hpp hp2) hpp⟩
theorem w_first_short {n C M : Int} {cs : List Call} {ws : List Int} {h : Hd} {E : XP} {Q : QP} (sys : SysOk 8 C M n cs) (hC : C ≤ 20) (hM : M ≤ 99) (hl : (ws.length : Int) = n) (hw : ∀ w ∈ ws, 0 ≤ w ∧ w ≤ 9999)
    (q0 : (∀ i : Nat, (i : Int) < n → lwin cs i ≤ (ws[i]?).getD 0) → Q .non h) (q1 : ∀ i : Nat, (i : Int) < n → (ws[i]?).getD 0 < lwin cs i → (∀ j : Nat, j < i → lwin cs j ≤ (ws[j]?).getD 0) → Q (.int (i : Nat)) h) : sp_first_short_window [sysD n cs, .tup (ws.map D.int)] h E Q := by
  refine ⟨rfl, ?_⟩
  unfold t_first_short_window
  rw [w_seq]
  simp [-w_seq, dstart]
  refine w_check_system sys (by omega) hC hM ?_
  rw [w_seq]
  simp [-w_seq]
  refine w_check_windows hl hw ?_
  rw [w_seq]
  simp [-w_seq]
  intro p hp
  refine w_table sys hC (by omega) (up_same _ _ _) fun h1 pg ps T fr => ⟨rfl, ?_⟩
  have sb : Sub h h1 := fun b o' hb => by
    have ne : b ≠ p := fun e => by subst e; rw [hp] at hb; cases hb
    exact (fr b o' ne (by rw [up_ne ne]; exact hb)).1
  refine w_find sys hC (by omega) T ?_
  simp
  have n1 := sys.n1
  have hr : ∀ k m : Nat, enumD (k : Nat) ((List.range' k m).map fun (i : Nat) => D.int (lwin cs i)) = (List.range' k m).map fun (i : Nat) => D.tup [.int (i : Nat), .int (lwin cs i)] := by
    intro k m
    induction m generalizing k with
    | zero => rfl
    | succ m ih =>
      have ek : ((k : Nat) : Int) + 1 = ((k + 1 : Nat) : Int) := by omega
      simp only [List.range'_succ, List.map_cons, enumD, ek, ih (k + 1)]
  have hr0 := hr 0 n.toNat
  rw [← List.range_eq_range'] at hr0
  have e0 : ((0 : Nat) : Int) = 0 := rfl
  rw [e0] at hr0
  rw [hr0]
  refine forL_ind (fun r s h' => h' = h1 ∧ ∃ k, k ≤ n.toNat ∧ r = (List.range' k (n.toNat - k)).map (fun (i : Nat) => D.tup [.int (i : Nat), .int (lwin cs i)]) ∧ (∀ j : Nat, j < k → lwin cs j ≤ (ws[j]?).getD 0) ∧ ∃ a2 a3, s = [some (sysD n cs), some (.tup (ws.map D.int)), a2, a3]) ?_ ?_ _ _ _ ⟨rfl, 0, by omega, by rw [List.range_eq_range']; rfl, fun j hj => by omega, _, _, rfl⟩
  · rintro d r s h' K hK ⟨rfl, k, hk, hr, hj, a2, a3, rfl⟩
    by_cases e : k = n.toNat
    · subst e; simp at hr
    · have e2 : n.toNat - k = (n.toNat - (k + 1)) + 1 := by omega
      rw [e2, List.range'_succ, List.map_cons] at hr
      injection hr with h2 h3
      subst h2
      have hkw : k < ws.length := by omega
      have ek : (ws.map D.int)[((k : Nat) : Int).toNat]? = some (.int ws[k]) := by simp [hkw]
      have eg : (ws[k]?).getD 0 = ws[k] := by rw [List.getElem?_eq_getElem hkw]; rfl
      simp
      refine (ix_tl (by omega) ek).mpr ?_
      simp [oLt]
      by_cases hlt : ws[k] < lwin cs k
      · exact .inr ⟨hlt, h, sb, q1 k (by omega) (by rw [eg]; exact hlt) hj⟩
      · refine .inl ⟨by omega, hK _ _ ⟨rfl, k + 1, by omega, h3, fun j hj2 => ?_, _, _, rfl⟩⟩
        by_cases e3 : j = k
        · subst e3; rw [eg]; omega
        · exact hj j (by omega)
  · rintro s h' ⟨rfl, k, hk, hr, hj, a2, a3, rfl⟩
    have : n.toNat - k = 0 := by
      cases q : n.toNat - k with
      | zero => rfl
      | succ m => rw [q, List.range'_succ] at hr; simp at hr
    simp
    exact ⟨h, sb, q0 fun i hi => hj i (by omega)⟩
end G
end S_Pdbl_k16
section S_Pdbl2_k16
set_option linter.all false
set_option maxRecDepth 100000
namespace G
open Dm
/-- what double_act hands back -/
structure DblOk (n : Int) (cs : List Call) (ws : List Int) (i : Nat) (es : List Ent) : Prop where
  lt : (i : Int) < n
  short : (ws[i]?).getD 0 < lwin cs i
  fst : ∀ j : Nat, j < i → lwin cs j ≤ (ws[j]?).getD 0
  sch : SchOk n 1 cs es
  len : es.length ≤ 2000
  a0 : ∀ e ∈ es, e.a = 0 ∧ e.r = 0
  dbl : ∃ l L R cL cR oL oR, Dbl cs l es i L R cL cR oL oR ∧ (tm l cL.c + oL + L.dl) - (tm l cR.c + oR + R.dl) = lwin cs i
set_option maxHeartbeats 0 in
theorem w_double {n C M : Int} {cs : List Call} {ws : List Int} {h : Hd} {E : XP} {Q : QP} (sys : SysOk 8 C M n cs) (hC : C ≤ 20) (hM : M ≤ 99) (hl : (ws.length : Int) = n) (hw : ∀ w ∈ ws, 0 ≤ w ∧ w ≤ 9999)
    (q0 : (∀ i : Nat, (i : Int) < n → lwin cs i ≤ (ws[i]?).getD 0) → Q .non h) (q1 : ∀ i es, DblOk n cs ws i es → Q (.tup [.int (i : Nat), .lst (es.map Ent.d)]) h) : sp_double_act [sysD n cs, .tup (ws.map D.int)] h E Q := by
  refine ⟨rfl, ?_⟩
  unfold t_double_act
  rw [w_seq]
  simp [-w_seq, dstart]
  refine w_first_short sys hC hM hl hw (fun hall => ?_) fun i hi hsh hfs => ?_
  · rw [w_seq]
    simp [-w_seq, oIsN, isNon]
    exact ⟨h, Sub.refl h, q0 hall⟩
  rw [w_seq]
  simp [-w_seq, oIsN, isNon]
  rw [w_seq]
  simp [-w_seq]
  intro p hp
  refine w_table sys hC (by omega) (up_same _ _ _) fun h1 pg ps T fr => ⟨rfl, ?_⟩
  have sb : Sub h h1 := fun b o' hb => by
    have ne : b ≠ p := fun e => by subst e; rw [hp] at hb; cases hb
    exact (fr b o' ne (by rw [up_ne ne]; exact hb)).1
  have hw0 : 0 ≤ (ws[i]?).getD 0 := by
    cases q : ws[i]? with
    | none => simp
    | some w => exact (hw w (List.mem_of_getElem? q)).1
  have hreach : Reach cs i ∧ prs cs i ≠ [] := by
    apply Classical.byContradiction
    intro z
    have := lwin_none z
    omega
  rw [w_seq]
  simp [-w_seq]
  refine w_widest sys hC T (fun z => absurd z hreach.2) fun w hw' => ?_
  have hwe := hw'.eq hreach.1
  obtain ⟨a, ha, b, hb, hab⟩ := prs_mem.mp hw'.mem
  unfold prB at hab
  split at hab
  · cases hab
  rename_i ne
  cases hab
  obtain ⟨cL, oL, L1, L2, L3, L4, L5, L6, L7⟩ := mgs_mem.mp ha
  obtain ⟨cR, oR, R1, R2, R3, R4, R5, R6, R7⟩ := mgs_mem.mp hb
  simp at hwe
  simp [-w_seq, Pr.d]
  have ob := T.ob
  have ob' := ob
  simp only [tabF] at ob'
  rw [w_seq]
  simp [-w_seq, ob', lkF]
  have pick0 : ∀ (k j : Nat) (c : Call) (_ : cs[k]? = some c) (H : Hd) (R : QP), R (.int c.c) H → oIx (sysD n cs) (.int 1) H fun x h1 => oIx (.tup [.int (k : Nat), .int (j : Nat)]) (.int 0) h1 fun y h2 => oIx x y h2 fun x h1 => oIx x (.int 0) h1 R :=
    fun k j c e H R r => ix_sys1.mpr ((ix_tl (s := 0) (by omega) (by rfl)).mpr ((ix_calls e).mpr (ix_c0.mpr r)))
  have pick3 : ∀ (k j : Nat) (c : Call) (_ : cs[k]? = some c) (H : Hd) (R : QP), R (.int c.lo) H → oIx (sysD n cs) (.int 1) H fun x h1 => oIx (.tup [.int (k : Nat), .int (j : Nat)]) (.int 0) h1 fun y h2 => oIx x y h2 fun x h1 => oIx x (.int 3) h1 R :=
    fun k j c e H R r => ix_sys1.mpr ((ix_tl (s := 0) (by omega) (by rfl)).mpr ((ix_calls e).mpr (ix_c3.mpr r)))
  have pick4 : ∀ (k j : Nat) (c : Call) (_ : cs[k]? = some c) (H : Hd) (R : QP), R (.int c.hi) H → oIx (sysD n cs) (.int 1) H fun x h1 => oIx (.tup [.int (k : Nat), .int (j : Nat)]) (.int 0) h1 fun y h2 => oIx x y h2 fun x h1 => oIx x (.int 4) h1 R :=
    fun k j c e H R r => ix_sys1.mpr ((ix_tl (s := 0) (by omega) (by rfl)).mpr ((ix_calls e).mpr (ix_c4.mpr r)))
  refine pick0 a.k a.j cL L1 _ _ ?_
  refine pick0 b.k b.j cR R1 _ _ ?_
  refine w_messages sys (by omega) T L3 R3 fun p3 l hp3 mf hll => ?_
  obtain ⟨tree, mx, tl, tr, _, _⟩ := mf.tree sys
  have okL := sys.cs cL (List.mem_of_getElem? L1)
  have okR := sys.cs cR (List.mem_of_getElem? R1)
  have ctL := okL.ct
  have ctR := okR.ct
  have hne : ∀ m ∈ l, m.2.2.offs ≠ [] := fun m hm => (sys.cs m.2.2 (List.mem_of_getElem? (tree.at_ m hm))).ne
  have ekj : l.map Msg.d = (l.map Msg.ent).map kjd := by
    rw [List.map_map]
    exact List.map_congr_left fun m hm => kjd_msg (hne m hm)
  rw [ekj]
  rw [w_seq]
  simp [-w_seq, tyL, sqL, -List.map_map]
  refine pick4 a.k a.j cL L1 _ _ ?_
  refine ⟨by simp [lim], add_tup.mpr ⟨by simp [lim], ?_⟩⟩
  simp only [mApp]
  refine ⟨_, up_same _ _ _, by simp [lim]; omega, ?_⟩
  rw [w_seq]
  simp [-w_seq, tyL, sqL, -List.map_map]
  refine pick3 b.k b.j cR R1 _ _ ?_
  refine ⟨by simp [lim], add_tup.mpr ⟨by simp [lim], ?_⟩⟩
  simp only [mApp]
  refine ⟨_, up_same _ _ _, by simp [lim]; omega, ?_⟩
  have hp30 : h p3 = none := sub_none sb hp3
  have hdf := mf.diff sys
  have mxi : ∀ m ∈ l, m.2.2.t < (i : Int) := fun m hm => by have := mx m hm; omega
  have kne : ∀ m ∈ l, ∀ (k : Nat) (c : Call), cs[k]? = some c → c.t = (i : Int) → m.2.1 ≠ k := fun m hm k c hc ht e => by
    have h1 := tree.at_ m hm
    rw [e, hc] at h1
    have h2 := congrArg Call.t (Option.some.inj h1)
    have := mxi m hm
    omega
  refine w_schedule_ofE (E0 := l.map Msg.ent ++ [⟨0, 0, a.k, a.j, cL.hi⟩, ⟨0, 0, b.k, b.j, cR.lo⟩]) sys hM (by rw [up_same]; simp [kjd]) (fun e he => ?_) ?_ fun es sch hperm => ⟨by simp [lim], h, (sb.up hp30).up hp30, q1 i es ⟨hi, hsh, hfs, sch, ?_, fun e he => ?_, l, ⟨0, 0, a.k, a.j, cL.hi⟩, ⟨0, 0, b.k, b.j, cR.lo⟩, cL, cR, oL, oR, ⟨tree, mxi, fun e => ?_, L1, L4, L2, tl, R1, R4, R2, tr⟩, ?_⟩⟩
  · rcases List.mem_append.mp he with z | z
    · obtain ⟨m, hm, rfl⟩ := List.mem_map.mp z
      have hat := tree.at_ m hm
      have ok := sys.cs m.2.2 (List.mem_of_getElem? hat)
      have hl0 : 0 < m.2.2.offs.length := List.length_pos_iff.mpr ok.ne
      have l1 := ok.lh
      refine ⟨(ent_ak m).1, (ent_ak m).2.1, m.2.2, by rw [(ent_ak m).2.2]; exact hat, ?_⟩
      unfold Msg.ent
      split
      · simp; omega
      · simp; omega
    · have l1 := okL.lh
      have l2 := okR.lh
      rcases List.mem_cons.mp z with rfl | z
      · exact ⟨rfl, rfl, cL, L1, (List.getElem?_eq_some_iff.mp L4).1, l1, Int.le_refl _⟩
      · rw [List.mem_singleton.mp z]
        exact ⟨rfl, rfl, cR, R1, (List.getElem?_eq_some_iff.mp R4).1, Int.le_refl _, l2⟩
  · rw [List.pairwise_append]
    refine ⟨?_, by simpa using fun h1 h2 => ne ⟨h1, h2⟩, fun e he f hf z => ?_⟩
    · rw [List.pairwise_map]
      refine tree.dec.imp_of_mem ?_
      intro m m' hm hm' h e
      rw [(ent_ak m).2.2, (ent_ak m').2.2] at e
      have h1 := tree.at_ m hm
      have h2 := tree.at_ m' hm'
      rw [e.1, h2] at h1
      have h3 := congrArg Call.t (Option.some.inj h1)
      omega
    · obtain ⟨m, hm, rfl⟩ := List.mem_map.mp he
      rw [(ent_ak m).2.2] at z
      rcases List.mem_cons.mp hf with rfl | hf
      · exact kne m hm a.k cL L1 L2 z.1
      · rw [List.mem_singleton.mp hf] at z
        exact kne m hm b.k cR R1 R2 z.1
  · rw [hperm.length_eq]
    simp
    omega
  · have := hperm.mem_iff.mp he
    rcases List.mem_append.mp this with z | z
    · obtain ⟨m, hm, rfl⟩ := List.mem_map.mp z
      exact ⟨(ent_ak m).2.1, (ent_ak m).1⟩
    · rcases List.mem_cons.mp z with rfl | z
      · exact ⟨rfl, rfl⟩
      · rw [List.mem_singleton.mp z]
        exact ⟨rfl, rfl⟩
  · rw [hperm.mem_iff, List.mem_append]
    simp only [List.mem_map, List.mem_cons, List.not_mem_nil, or_false]
    constructor
    · rintro (⟨m, hm, rfl⟩ | z)
      · exact .inl ⟨m, hm, rfl⟩
      · exact .inr z
    · rintro (⟨m, hm, rfl⟩ | z)
      · exact .inl ⟨m, hm, rfl⟩
      · exact .inr z
  · rw [← hwe, L5, R5, L7, R6, ← hdf]
    simp
    omega
end G
end S_Pdbl2_k16
section S_Preuse0_k16
set_option linter.all false
set_option maxRecDepth 100000
namespace G
open Dm
theorem sub_of4 {h h' : Hd} {p pg ps : Nat} {o : HObj} (hp : h p = none) (fr : ∀ b o', b ≠ p → (up h p o) b = some o' → h' b = some o' ∧ b ≠ pg ∧ b ≠ ps) : Sub h h' := fun b o' hb => by
  have ne : b ≠ p := fun e => by subst e; rw [hp] at hb; cases hb
  exact (fr b o' ne (by rw [up_ne ne]; exact hb)).1
theorem w_latest {n C M : Int} {cs : List Call} {ws : List Int} {h : Hd} {E : XP} {Q : QP} (sys : SysOk 8 C M n cs) (hC : C ≤ 20) (hM : M ≤ 99) (hl : (ws.length : Int) = n)
    (q : ∀ s, Lf cs (wsF ws) s → Q (.tup [.int (tick cs (wsF ws) s), .int s]) h) : sp_latest_forgetting [sysD n cs, .tup (ws.map D.int)] h E Q := by
  refine ⟨rfl, ?_⟩
  have n1 := sys.n1
  unfold t_latest_forgetting
  rw [w_seq]
  simp [-w_seq, dstart]
  intro p hp
  refine w_table sys hC (by omega) (up_same _ _ _) fun h1 pg ps T fr => ⟨rfl, ?_⟩
  have sb := sub_of4 hp fr
  intro pr hpr
  refine ⟨by simp [lim], ?_⟩
  have hpr0 : h pr = none := sub_none sb hpr
  have T2 : ∀ o, TabAt n cs (up h1 pr o) p pg ps := fun o => T.up1 hpr
  rw [w_seq]
  have ob2 := fun o => (T2 o).ob
  simp only [tabF] at ob2
  simp [-w_seq, ob2, lkF]
  refine forL_ind (fun r s h' => ∃ dn rs : List Int, ∃ a4 a5 a6, r = rs.map D.int ∧ rch n cs = dn ++ rs ∧ h' = up h1 pr (.lst (dn.map (tickD cs (wsF ws)))) ∧ s = [some (sysD n cs), some (.tup (ws.map D.int)), some (.ref p), some (.ref pr), a4, a5, a6]) ?_ ?_ _ _ _ ⟨[], rch n cs, _, _, _, rfl, rfl, rfl, rfl⟩
  · rintro d r s h' K hK ⟨dn, rs, a4, a5, a6, hr, he, rfl, rfl⟩
    cases rs with
    | nil => simp at hr
    | cons v rs =>
      simp only [List.map_cons, List.cons.injEq] at hr
      obtain ⟨rfl, rfl⟩ := hr
      have rv : Reach cs v := (rch_mem sys v).mp (by rw [he]; simp)
      have rg := rv.rg sys
      have hdl : dn.length + 1 ≤ (rch n cs).length := by rw [he]; simp
      have hrl := rch_len n cs
      have hn8 := sys.nS
      have hwi : (ws.map D.int)[v.toNat]? = some (.int (wsF ws v)) := by
        have hi : v.toNat < ws.length := by omega
        unfold wsF
        rw [List.getElem?_map, List.getElem?_eq_getElem hi]
        rfl
      simp [ob2, lkF]
      refine (ix_tl (by omega) hwi).mpr ?_
      simp [ob2, lkF]
      refine ⟨by simp [lim], ((T2 _).get rv .zero).mpr (add_int.mpr ?_)⟩
      simp [ob2, lkF]
      refine ⟨by simp [lim], ((T2 _).get .zero rv).mpr (add_int.mpr ?_)⟩
      simp only [tyL, sqL, up_same]
      refine ⟨⟨_, rfl⟩, neg_int.mpr ⟨by simp [lim], ?_⟩⟩
      simp only [mApp]
      refine ⟨_, up_same _ _ _, by simp [lim]; omega, ?_⟩
      rw [up_up]
      exact hK _ _ ⟨dn ++ [v], rs, _, _, _, rfl, by rw [he]; simp, by rw [List.map_append]; rfl, rfl⟩
  · rintro s h' ⟨dn, rs, a4, a5, a6, hr, he, rfl, rfl⟩
    have hrs : rs = [] := by
      cases rs with
      | nil => rfl
      | cons _ _ => simp at hr
    subst hrs
    rw [List.append_nil] at he
    subst he
    show sSeq _ _ _ _ _
    rw [w_seq]
    simp [-w_seq]
    rw [w_seq]
    simp [-w_seq]
    refine ⟨(rch n cs).map (tickD cs (wsF ws)), mk2, by simp only [sqL, up_same], ?_, by simp [mk2, mkDep, mkDepL], (fun d hd => ?_), fun d hd hmax => ?_⟩
    · have : (0 : Int) ∈ rch n cs := (rch_mem sys 0).mpr .zero
      intro z
      rw [List.map_eq_nil_iff] at z
      rw [z] at this
      cases this
    · obtain ⟨v, _, rfl⟩ := List.mem_map.mp hd
      exact tick_mk _ _ _
    obtain ⟨s, rfl, lf⟩ := tick_max sys (fun v => rch_mem sys v) hd hmax
    simp [tickD]
    refine neg_int.mpr ⟨by simp [lim], h, sb.up hpr0, ?_⟩
    have := q s lf
    simpa using this
theorem w_least_reuse {n C M : Int} {cs : List Call} {ws : List Int} {h : Hd} {E : XP} {Q : QP} (sys : SysOk 8 C M n cs) (hC : C ≤ 20) (hM : M ≤ 99) (hl : (ws.length : Int) = n) (hw : ∀ w ∈ ws, 0 ≤ w ∧ w ≤ 9999)
    (q : ∀ s, Lf cs (wsF ws) s → Q (.int (tick cs (wsF ws) s + 1)) h) : sp_least_reuse_time [sysD n cs, .tup (ws.map D.int)] h E Q := by
  refine ⟨rfl, ?_⟩
  unfold t_least_reuse_time
  rw [w_seq]
  simp [-w_seq, dstart]
  refine w_check_system sys (by omega) hC hM ?_
  rw [w_seq]
  simp [-w_seq]
  refine w_check_windows hl hw ?_
  refine w_latest sys hC hM hl fun s lf => ?_
  exact (ix_tl (s := 0) (by omega) rfl).mpr (add_int.mpr ⟨h, Sub.refl h, q s lf⟩)
end G
end S_Preuse0_k16
section S_Pdiff0_k16
set_option linter.all false
set_option maxRecDepth 100000
namespace G
open Dm
theorem sub_of0 {h h' : Hd} {p pg ps : Nat} {o : HObj} (hp : h p = none) (fr : ∀ b o', b ≠ p → (up h p o) b = some o' → h' b = some o' ∧ b ≠ pg ∧ b ≠ ps) : Sub h h' := fun b o' hb => by
  have ne : b ≠ p := fun e => by subst e; rw [hp] at hb; cases hb
  exact (fr b o' ne (by rw [up_ne ne]; exact hb)).1
theorem w_check_reached {n S C M : Int} {cs : List Call} {s : Int} {h : Hd} {E : XP} {Q : QP} (sys : SysOk S C M n cs) (hC : C ≤ 20) (r : Reach cs s) (q : Q .non h) : sp_check_reached [sysD n cs, .int s] h E Q := by
  refine ⟨rfl, ?_⟩
  have rg := r.rg sys
  simp [t_check_reached, dstart, ix_sys0, oSub]
  refine w_is_integer ?_
  refine ⟨by simp; omega, ?_⟩
  refine w_reached sys hC ?_
  unfold oNotIn
  refine (in_rch sys).mpr ⟨_, rfl, ?_⟩
  rw [decide_eq_true r]
  exact ⟨rfl, h, Sub.refl h, q⟩
theorem w_difference {n C M : Int} {cs : List Call} {a b : Int} {h : Hd} {E : XP} {Q : QP} (sys : SysOk 8 C M n cs) (hC : C ≤ 20) (hM : M ≤ 99) (ra : Reach cs a) (rb : Reach cs b) (q : Q (.int (gd cs a b)) h) : sp_difference [sysD n cs, .int a, .int b] h E Q := by
  refine ⟨rfl, ?_⟩
  unfold t_difference
  rw [w_seq]
  simp [-w_seq, dstart]
  refine w_check_system sys (by omega) hC hM ?_
  rw [w_seq]
  simp [-w_seq]
  refine w_check_reached sys hC ra ?_
  rw [w_seq]
  simp [-w_seq]
  refine w_check_reached sys hC rb ?_
  intro p hp
  refine w_table sys hC (by omega) (up_same _ _ _) fun h' pg ps T fr => ⟨rfl, ?_⟩
  have ob := T.ob
  simp only [tabF] at ob
  simp [ob, lkF]
  refine ⟨by simp [lim], (T.get ra rb).mpr ⟨h, sub_of0 hp fr, q⟩⟩
end G
end S_Pdiff0_k16
section S_Preachable_k16
set_option linter.all false
set_option maxRecDepth 100000
namespace G
open Dm
theorem w_reachable {n C M : Int} {cs : List Call} {h : Hd} {E : XP} {Q : QP} (sys : SysOk 8 C M n cs) (hC : C ≤ 20) (hM : M ≤ 99) (q : Q (.lst ((rch n cs).map D.int)) h) : sp_reachable_services [sysD n cs] h E Q := by
  refine ⟨rfl, ?_⟩
  simp [t_reachable_services, dstart]
  refine w_check_system sys (by omega) hC hM ?_
  refine w_reached sys hC ⟨h, Sub.refl h, q⟩
end G
end S_Preachable_k16
section S_Ldice_k16
set_option linter.all false
set_option maxRecDepth 100000
namespace G
open Dm
theorem w_next {ns : List Int} {p : Nat} {many : Int} {h : Hd} {E : XP} {Q : QP} (dc : DiceAt ns h p) (h0 : 0 < many) (h1 : many < 1073741824)
    (q : ∀ v h', 0 ≤ v → v < many → DiceAt ns h' p → Off p h h' → Q (.int v) h') : sp__law_next [.ref p, .int many] h E Q := by
  obtain ⟨i, m, r, hi, hp⟩ := dc
  refine ⟨rfl, ?_⟩
  have hm : ∀ x : Int, 0 ≤ x % many ∧ x % many < many := fun x => ⟨Int.emod_nonneg _ (by omega), Int.emod_lt_of_pos _ h0⟩
  have q := fun v o a b d => q v (up h p o) a b d (Off.up _ _ _)
  simp [t__law_next, dstart, oIx, hp, ixOk, ixP, oGt, bInt, oMod, oFdiv, h0, h1, oAdd, oLe, bLen, sq, oSub, oGe, oPow, oMul]
  by_cases hr : 0 < r
  · refine .inr ⟨hr, _, Sub.refl _, q _ _ (hm r).1 (hm r).2 ⟨i, m, r / many, hi, up_same _ _ _⟩⟩
  · refine .inl ⟨by omega, ?_⟩
    by_cases hl : (ns.length : Int) < i + 1
    · exact .inl ⟨hl, _, Sub.refl _, q _ _ (hm _).1 (hm _).2 ⟨i + 1, _, r, by omega, up_same _ _ _⟩⟩
    · have hlt : i.toNat < ns.length := by omega
      refine .inr ⟨by omega, ⟨by omega, by omega⟩, .int ns[i.toNat], ⟨ns[i.toNat], ?_, rfl⟩, ?_⟩
      · rw [if_neg (by omega)]
        exact List.getElem?_eq_getElem hlt
      · simp [h0, h1]
        by_cases hb : (1000000000000000000 : Int) ≤ ns[i.toNat]
        · exact .inr ⟨hb, _, Sub.refl _, q _ _ (hm _).1 (hm _).2 ⟨i + 1, m, _, by omega, up_same _ _ _⟩⟩
        · exact .inl ⟨by omega, _, Sub.refl _, q _ _ (hm _).1 (hm _).2 ⟨i + 1, m, _, by omega, up_same _ _ _⟩⟩
/-- _law_dice -/
theorem w_dice {ns : List Int} {h : Hd} {E : XP} {Q : QP} (q : ∀ p h', h p = none → DiceAt ns h' p → Off p h h' → Q (.ref p) h') : sp__law_dice [.scr (ns.map D.int)] h E Q := by
  refine ⟨rfl, ?_⟩
  simp [t__law_dice, dstart]
  refine forL_ind (fun r s h' => h' = h ∧ ∃ l m c, r = l.map D.int ∧ s = [some (.scr (ns.map D.int)), some (.int m), c]) ?_ ?_ _ _ _ ⟨rfl, ns, 0, none, rfl, rfl⟩
  · rintro d r s h' K hK ⟨rfl, l, m, c, hl, rfl⟩
    cases l with
    | nil => simp at hl
    | cons x l =>
      simp only [List.map_cons, List.cons.injEq] at hl
      obtain ⟨rfl, rfl⟩ := hl
      simp [oMod, oAdd, oMul, bInt]
      exact hK _ _ ⟨rfl, l, _, _, rfl, rfl⟩
  · rintro s h' ⟨rfl, l, m, c, hl, rfl⟩
    simp [bLen, sq, oGt, bInt, oMul, lim]
    refine ⟨.inr ⟨by split <;> decide, by split <;> decide⟩, fun p hp => ⟨_, Sub.refl _, q p _ hp ⟨0, _, 0, by omega, up_same _ _ _⟩ (Off.up _ _ _)⟩⟩
end G
end S_Ldice_k16
section S_LpickE_k16
set_option linter.all false
set_option maxRecDepth 100000
namespace G
open Dm
theorem w_pickD {ns : List Int} {p : Nat} {l : List D} {h : Hd} {E : XP} {Q : QP} (dc : DiceAt ns h p) (ne : l ≠ []) (hl : l.length ≤ 1000) (q : ∀ s h', s ∈ l → DiceAt ns h' p → Off p h h' → Q s h') : sp__law_pick [.ref p, .lst l] h E Q := by
  refine ⟨rfl, ?_⟩
  have h0 : 0 < l.length := List.length_pos_iff.mpr ne
  simp [t__law_pick, dstart, bLen, sq]
  refine w_next dc (by omega) (by omega) fun v h1 lo hi dc1 of1 => ?_
  have e : l[v.toNat]? = some l[v.toNat] := List.getElem?_eq_getElem (by omega)
  exact (ix_ll lo e).mpr ⟨_, Sub.refl _, q _ _ (List.getElem_mem _) dc1 of1⟩
end G
end S_LpickE_k16
section S_Lsystem_k16
set_option linter.all false
set_option maxRecDepth 100000
namespace G
open Dm
theorem w_lawcall {ns : List Int} {p : Nat} {n M : Int} {h : Hd} {E : XP} {Q : QP} (dc : DiceAt ns h p) (hn : 2 ≤ n) (hn9 : n ≤ 9) (hM : 0 ≤ M) (hM9 : M ≤ 99)
    (q : ∀ (k : Call) h', k.Ok n M → DiceAt ns h' p → Off p h h' → Q k.d h') : sp__law_call [.ref p, .int n, .int M] h E Q := by
  refine ⟨rfl, ?_⟩
  simp [t__law_call, dstart, oSub]
  refine w_next dc (by omega) (by omega) fun v1 g1 a1 b1 d1 f1 => ?_
  simp [oAdd]
  refine w_next d1 (by omega) (by omega) fun v2 g2 a2 b2 d2 f2 => ?_
  simp
  refine w_next d2 (by omega) (by omega) fun v3 g3 a3 b3 d3 f3 => ?_
  simp
  refine ⟨by omega, ?_⟩
  refine lcL_ind (fun r acc h' => ∃ xs : List Int, Off p h h' ∧ DiceAt ns h' p ∧ acc = xs.map D.int ∧ (∀ x ∈ xs, 0 ≤ x ∧ x ≤ M) ∧ xs.length + r.length = (1 + v3).toNat) ?_ ?_ _ _ _ ⟨[], (f1.trans f2).trans f3, d3, rfl, fun x hx => (by cases hx), (by simp [rngD])⟩
  · rintro d r acc h' K hK ⟨xs, ff, dd, rfl, hx, hl⟩
    simp [wipe]
    refine w_next dd (by omega) (by omega) fun v4 g4 a4 b4 d4 f4 => ?_
    refine hK _ _ ⟨xs ++ [v4], ff.trans f4, d4, by simp, fun x hx' => ?_, by simp at hl ⊢; omega⟩
    rcases List.mem_append.mp hx' with h' | h'
    · exact hx x h'
    · rw [List.mem_singleton.mp h']; omega
  · rintro acc h' ⟨xs, ff, dd, rfl, hx, hl⟩
    simp at hl
    simp only [bSet, sq]
    refine ⟨_, xs, rfl, intsOf_map xs, by omega, ?_⟩
    simp only [bSortedSet]
    intro ms h1 h2
    refine w_next dd (by omega) (by omega) fun v5 g5 a5 b5 d5 f5 => ?_
    simp [bTuple, sq]
    refine w_next d5 (by omega) (by omega) fun v6 g6 a6 b6 d6 f6 => ?_
    simp [lim]
    have hlen := nodup_len h1 fun k hk => (h2 k).mp hk
    refine ⟨_, Sub.refl _, q ⟨v1, v1 + 1 + v2, ms, v5, v5 + v6⟩ _ ⟨a1, ?_, ?_, ?_, ?_, h1, ?_, a5, ?_, ?_⟩ d6 ((ff.trans f5).trans f6)⟩
    · show v1 < v1 + 1 + v2; omega
    · show v1 + 1 + v2 < n; omega
    · show ms ≠ []
      rintro rfl
      cases xs with
      | nil => simp at hl; omega
      | cons x xs => exact absurd ((h2 x).mpr List.mem_cons_self) (by simp)
    · show ms.length ≤ 4; omega
    · intro o ho; exact hx o ((h2 o).mp ho)
    · show v5 ≤ v5 + v6; omega
    · show v5 + v6 ≤ M; omega
theorem w_lawsystem {ns : List Int} {p : Nat} {S C M : Int} {h : Hd} {E : XP} {Q : QP} (dc : DiceAt ns h p) (hS : 1 ≤ S) (hS9 : S ≤ 8) (hC : 0 ≤ C) (hC9 : C ≤ 20) (hM : 0 ≤ M) (hM9 : M ≤ 99)
    (q : ∀ n cs h', SysOk S C M n cs → DiceAt ns h' p → Off p h h' → Q (sysD n cs) h') : sp__law_system [.ref p, .int S, .int C, .int M] h E Q := by
  refine ⟨rfl, ?_⟩
  simp [t__law_system, dstart]
  refine w_next dc (by omega) (by omega) fun v1 g1 a1 b1 d1 f1 => ?_
  simp [oAdd, lim]
  intro p2 hp2
  have hne : p2 ≠ p := d1.ne hp2
  have hp2' : h p2 = none := (f1 p2 hne).symm.trans hp2
  have go : ∀ (c : Int) (g : Hd), 0 ≤ c → c ≤ C → (c > 0 → 2 ≤ 1 + v1) → Off2 p p2 h g → g p2 = some (.lst []) → DiceAt ns g p → forL (fun _ => True) (gN 6) (sExpr (eM tyL mApp (eVar 5) (aCons (eCall sp__law_call (aCons (eVar 0) (aCons (eVar 4) (aCons (eVar 3) aNil)))) aNil)))
      { endOf (fun _ _ => False) Q with nx := sRet (eTup (aCons (eVar 4) (aCons (eB bTuple (aCons (eVar 5) aNil)) aNil))) (endOf (fun _ _ => False) Q) } (rngD 0 c.toNat)
      [some (D.ref p), some (D.int S), some (D.int C), some (D.int M), some (D.int (1 + v1)), some (D.ref p2), none] g := by
    intro c g hc0 hcC hc1 off hg dd
    refine forL_ind (fun r s h' => ∃ x, ∃ cs : List Call, s = [some (D.ref p), some (D.int S), some (D.int C), some (D.int M), some (D.int (1 + v1)), some (D.ref p2), x] ∧ Off2 p p2 h h' ∧ h' p2 = some (.lst (cs.map Call.d)) ∧ DiceAt ns h' p ∧ (∀ k ∈ cs, k.Ok (1 + v1) M) ∧ cs.length + r.length = c.toNat) ?_ ?_ _ _ _
      ⟨none, [], rfl, off, hg, dd, (fun k hk => by cases hk), (by simp [rngD])⟩
    · rintro d r s h' K hK ⟨x, cs, rfl, off, hg, dd, hcs, hl⟩
      simp at hl
      simp [tyL, sqL, hg]
      refine w_lawcall dd (hc1 (by omega)) (by omega) hM hM9 fun k h2 ok d2 f2 => ?_
      have e2 : h2 p2 = some (.lst (cs.map Call.d)) := (f2 p2 hne).trans hg
      simp [mApp, lim, e2]
      refine ⟨by omega, hK _ _ ⟨_, cs ++ [k], rfl, (off.step f2).step2, by simp, d2.off (up_ne (Ne.symm hne)), ?_, by simp; omega⟩⟩
      intro k' hk'
      rcases List.mem_append.mp hk' with z | z
      · exact hcs k' z
      · rw [List.mem_singleton.mp z]; exact ok
    · rintro s h' ⟨x, cs, rfl, off, hg, dd, hcs, hl⟩
      simp at hl
      simp [bTuple, sq, lim, hg]
      exact ⟨rm h' p2, drop_sub _ _, q _ _ _ ⟨by omega, by omega, by omega, hcs⟩ (dd.off (rm_ne (Ne.symm hne))) (off.drop hp2')⟩
  have off0 : Off2 p p2 h (up g1 p2 (.lst [])) := fun a na ma => (up_ne ma).trans (f1 a na)
  have d0 : DiceAt ns (up g1 p2 (.lst [])) p := d1.off (up_ne (Ne.symm hne))
  simp [oGt]
  by_cases hv : 0 < v1
  · refine .inr ⟨by omega, w_next d0 (by omega) (by omega) fun v2 g2 a2 b2 d2 f2 => ⟨v2, rfl, ⟨by omega, by omega⟩, ?_⟩⟩
    exact go v2 g2 a2 (by omega) (by omega) (off0.step f2) ((f2 p2 hne).trans (up_same _ _ _)) d2
  · exact .inl ⟨by omega, go 0 _ (by omega) hC (by omega) off0 (up_same _ _ _) d0⟩
end G
end S_Lsystem_k16
section S_PT23
set_option linter.all false
/-! PT23: more attempts need more memory (k16). -/
namespace G
theorem reuse_mono {n S C M S' C' M' : Int} {cs cs' : List Call} (sys : SysOk S C M n cs) (sys' : SysOk S' C' M' n cs') (hS : S ≤ 100) (hS' : S' ≤ 100) (L : Less cs' cs) {ws : Int → Int} {s s' : Int} (lf : Lf cs ws s) (lf' : Lf cs' ws s') : tick cs' ws s' ≤ tick cs ws s := by
  have r := lf'.r
  have g := r.rg sys'
  have h1 := gd_mono sys sys' hS hS' L (s' + 0 + 1).toNat s' 0 (by omega) r .zero
  have h2 := gd_mono sys sys' hS hS' L (0 + s' + 1).toNat 0 s' (by omega) .zero r
  have h3 := lf.le s' (L.rch r)
  unfold tick at *
  omega
theorem less_app (cs : List Call) (c : Call) : Less cs (cs ++ [c]) := fun k c' h => ⟨c', by rw [List.getElem?_append_left (List.getElem?_eq_some_iff.mp h).1]; exact h, rfl, rfl, rfl, rfl, Int.le_refl _, Int.le_refl _, id⟩
theorem less_refl (cs : List Call) : Less cs cs := fun k c' h => ⟨c', h, rfl, rfl, rfl, rfl, Int.le_refl _, Int.le_refl _, id⟩
/-- two lists going up with the same members are one -/
theorem up_eq : ∀ {l m : List Int}, l.Pairwise (· < ·) → m.Pairwise (· < ·) → (∀ x, x ∈ l ↔ x ∈ m) → l = m
  | [], [], _, _, _ => rfl
  | [], b :: m, _, _, h => by have := (h b).mpr List.mem_cons_self; cases this
  | a :: l, [], _, _, h => by have := (h a).mp List.mem_cons_self; cases this
  | a :: l, b :: m, hl, hm, h => by
    have hl' := List.pairwise_cons.mp hl
    have hm' := List.pairwise_cons.mp hm
    have e : a = b := by
      rcases List.mem_cons.mp ((h a).mp List.mem_cons_self) with z | z
      · exact z
      · rcases List.mem_cons.mp ((h b).mpr List.mem_cons_self) with y | y
        · exact y.symm
        · have := hm'.1 a z
          have := hl'.1 b y
          omega
    subst e
    rw [up_eq hl'.2 hm'.2 fun x => by
      constructor
      · intro hx
        rcases List.mem_cons.mp ((h x).mp (List.mem_cons_of_mem _ hx)) with z | z
        · have := hl'.1 x hx; omega
        · exact z
      · intro hx
        rcases List.mem_cons.mp ((h x).mpr (List.mem_cons_of_mem _ hx)) with z | z
        · have := hm'.1 x hx; omega
        · exact z]
/-- one call's attempts widened -/
theorem less_set {n S C M : Int} {cs : List Call} {k : Nat} {c : Call} {ws : List Int} (hk : cs[k]? = some c) (ne : c.offs ≠ []) (up : ws.Pairwise (· < ·)) (sub : ∀ o ∈ c.offs, o ∈ ws) (len : c.offs.length ≤ ws.length) : Less cs (cs.set k { c with offs := ws }) := fun i c' h => by
  by_cases hi : i = k
  · subst hi
    rw [hk] at h
    cases h
    have hl := (List.getElem?_eq_some_iff.mp hk).1
    refine ⟨_, List.getElem?_set_self hl, rfl, rfl, rfl, rfl, up_last up _ (sub _ (last_mem ne)), up_first up _ (sub _ ?_), fun z => Nat.lt_of_lt_of_le z len⟩
    cases q : c.offs with
    | nil => exact absurd q ne
    | cons x l =>
      unfold Call.first
      rw [q]
      simp
  · exact ⟨c', by rw [List.getElem?_set_ne (Ne.symm hi)]; exact h, rfl, rfl, rfl, rfl, Int.le_refl _, Int.le_refl _, id⟩
theorem kept_none (k j : Nat) : ∀ (os : List Int) (i : Nat), j < i → kept k [(k, j)] i os = os
  | [], i, _ => rfl
  | o :: os, i, h => by
    have e : kept k [(k, j)] i (o :: os) = if (k, i) ∈ [(k, j)] then kept k [(k, j)] (i + 1) os else o :: kept k [(k, j)] (i + 1) os := rfl
    rw [e, if_neg (by simp; omega), kept_none k j os (i + 1) (by omega)]
theorem kept_one (k j : Nat) : ∀ (os : List Int) (i : Nat), i ≤ j → kept k [(k, j)] i os = os.eraseIdx (j - i)
  | [], i, _ => rfl
  | o :: os, i, h => by
    have e : kept k [(k, j)] i (o :: os) = if (k, i) ∈ [(k, j)] then kept k [(k, j)] (i + 1) os else o :: kept k [(k, j)] (i + 1) os := rfl
    rw [e]
    by_cases hi : i = j
    · subst hi
      rw [if_pos (by simp), kept_none k i os (i + 1) (by omega), Nat.sub_self]
      rfl
    · rw [if_neg (by simp; omega), kept_one k j os (i + 1) (by omega)]
      obtain ⟨m, hm⟩ : ∃ m, j - i = m + 1 := ⟨j - i - 1, by omega⟩
      rw [hm, List.eraseIdx_cons_succ, show j - (i + 1) = m by omega]
theorem kept_other (k j k' : Nat) (ne : k' ≠ k) : ∀ (os : List Int) (i : Nat), kept k' [(k, j)] i os = os
  | [], i => rfl
  | o :: os, i => by
    have e : kept k' [(k, j)] i (o :: os) = if (k', i) ∈ [(k, j)] then kept k' [(k, j)] (i + 1) os else o :: kept k' [(k, j)] (i + 1) os := rfl
    rw [e, if_neg (by simp; omega), kept_other k j k' ne os (i + 1)]
end G
end S_PT23
section S_MmA_k16
set_option linter.all false
set_option maxRecDepth 100000
/-! MmA: the law's parts. -/
namespace G
open Dm
/-- the slots -/
def st0 (ns : List Int) (p : Nat) (a2 : Option D) (n : Int) (cs : List Call) (r : List (Option D)) : St := some (.scr (ns.map D.int)) :: some (.ref p) :: a2 :: some (sysD n cs) :: some (.int n) :: some (.tup (cs.map Call.d)) :: r
/-- least windows -/
noncomputable def lws (n : Int) (cs : List Call) : List Int := (List.range n.toNat).map fun (i : Nat) => lwin cs i
theorem lws_d (n : Int) (cs : List Call) : ((List.range n.toNat).map fun (i : Nat) => D.int (lwin cs i)) = (lws n cs).map D.int := by
  unfold lws
  rw [List.map_map]
  rfl
theorem lws_get {n : Int} {cs : List Call} {i : Nat} (hi : (i : Int) < n) : (lws n cs)[i]? = some (lwin cs i) := by
  unfold lws
  rw [List.getElem?_map, List.getElem?_range (by omega)]
  rfl
theorem lws_len {n : Int} (h : 0 ≤ n) (cs : List Call) : ((lws n cs).length : Int) = n := by
  unfold lws
  simp
  omega
theorem ix_lws {n : Int} {cs : List Call} {i : Nat} {h : Hd} {Q : QP} (hi : (i : Int) < n) : oIx (.tup ((lws n cs).map D.int)) (.int (i : Nat)) h Q ↔ Q (.int (lwin cs i)) h := ix_ints (lws_get hi)
/-- a comprehension that finds nothing -/
theorem lc_none {lo : Int} {n : Nat} {g : TG} {t : TT} {e : TE} {s : St} {Q : List D → Hd → Prop} {h : Hd} (hs : ∀ (i : Nat) (K : D → Hd → Prop) (N : Hd → Prop), i < n → N h → g (.int (lo + (i : Nat))) s h (fun _ _ => False) fun s2 h2 => t s2 h2 (fun _ _ => False) fun b h3 => if b = true then e s2 h3 (fun _ _ => False) K else N h3)
    (q : Q [] h) : lcL (fun _ => True) g t e s Q (rngD lo n) [] h := by
  refine lcL_rng (I := fun k acc h' => h' = h ∧ acc = []) ?_ ?_ ⟨rfl, rfl⟩
  · rintro k acc h' K hk hK ⟨rfl, rfl⟩
    exact hs k (fun y h4 => True ∧ K ([] ++ [y]) h4) (fun h3 => True ∧ K [] h3) hk ⟨trivial, hK _ _ ⟨rfl, rfl⟩⟩
  · rintro acc h' ⟨rfl, rfl⟩
    exact q
theorem ne_nil16 {h : Hd} {Q : QP} (q : Q (.bl false) h) : oNe (.lst []) (.lst []) h Q := by
  unfold oNe
  simpa [vw, plain, plainL, eqv, eqvL] using q
theorem wide20 {S C M n : Int} {cs : List Call} (sys : SysOk S C M n cs) (hS : S ≤ 8) (hC : C ≤ 20) (hM : M ≤ 99) : SysOk 8 20 99 n cs := ⟨sys.n1, by have := sys.nS; omega, by have := sys.len; omega, fun c hc => by
  have k := sys.cs c hc
  exact ⟨k.c0, k.ct, k.tn, k.ne, k.le, k.up, fun o ho => ⟨(k.rg o ho).1, by have := (k.rg o ho).2; omega⟩, k.lo0, k.lh, by have := k.hM; omega⟩⟩
theorem app_sys {n : Int} {cs : List Call} {c : Call} {M : Int} (sys : SysOk 6 9 M n cs) (hM : M ≤ 99) (ok : c.Ok n 20) : SysOk 8 20 99 n (cs ++ [c]) := ⟨sys.n1, by have := sys.nS; omega, by have := sys.len; simp; omega, fun k hk => by
  rcases List.mem_append.mp hk with hk | hk
  · exact (wide20 sys (by omega) (by omega) hM).cs k hk
  · rw [List.mem_singleton.mp hk]
    exact ⟨ok.c0, ok.ct, ok.tn, ok.ne, ok.le, ok.up, fun o ho => ⟨(ok.rg o ho).1, by have := (ok.rg o ho).2; omega⟩, ok.lo0, ok.lh, by have := ok.hM; omega⟩⟩
set_option maxHeartbeats 1000000 in
theorem w_kH {ns : List Int} {p : Nat} {M n : Int} {cs : List Call} {a2 : Option D} {R : TS} {P : En} {h : Hd} (sys : SysOk 6 9 M n cs) (hM : M ≤ 99) (n2 : 2 ≤ n) (dc : DiceAt ns h p) {l : List (Option D)} (hl : l.length = 17)
    (q : ∀ c h' l', c.Ok n 20 → DiceAt ns h' p → l'.length = 13 → R P (st0 ns p a2 n cs (some (sysD n (cs ++ [c])) :: some (.lst ((rch n cs).map D.int)) :: some (.tup ((lws n cs).map D.int)) :: some (.tup ((lws n (cs ++ [c])).map D.int)) :: l')) h') : kH R P (st0 ns p a2 n cs l) h := by
  obtain ⟨x6, x7, x8, x9, x10, x11, x12, x13, x14, x15, x16, x17, x18, x19, x20, x21, x22, rfl⟩ : ∃ x6 x7 x8 x9 x10 x11 x12 x13 x14 x15 x16 x17 x18 x19 x20 x21 x22, l = [x6, x7, x8, x9, x10, x11, x12, x13, x14, x15, x16, x17, x18, x19, x20, x21, x22] := by
    match l, hl with
    | [x6, x7, x8, x9, x10, x11, x12, x13, x14, x15, x16, x17, x18, x19, x20, x21, x22], _ => exact ⟨_, _, _, _, _, _, _, _, _, _, _, _, _, _, _, _, _, rfl⟩
  have nS := sys.nS
  have cl := sys.len
  unfold kH st0
  rw [w_seq]
  simp [-w_seq]
  refine w_lawcall dc n2 (by omega) (by omega) (by omega) fun c h1 ok dc1 of1 => ?_
  refine ⟨by simp [lim], ?_⟩
  refine add_tup.mpr ⟨by simp [lim]; omega, ?_⟩
  refine ⟨by simp [lim], ?_⟩
  have e1 : D.tup [.int n, .tup (cs.map Call.d ++ [c.d])] = sysD n (cs ++ [c]) := by simp [sysD]
  rw [e1]
  have sys1 := wide20 sys (by omega) (by omega) hM
  have sys2 := app_sys sys hM ok
  rw [w_seq]
  simp [-w_seq]
  refine w_reachable sys1 (by omega) (by omega) ?_
  rw [w_seq]
  simp [-w_seq]
  refine w_least sys1 (by omega) (by omega) ?_
  refine w_least sys2 (by omega) (by omega) ?_
  rw [lws_d, lws_d]
  refine ⟨by simp [lim], ?_⟩
  rw [w_seq]
  simp [-w_seq]
  refine ⟨⟨by omega, by omega⟩, lc_none (fun i K N hi hN => ?_) ?_⟩
  · simp [wipe]
    refine (in_rch sys1).mpr ?_
    have hi' : (i : Int) < n := by omega
    have mono := lwin_mono sys2 sys1 (by omega) (by omega) (by omega) (less_app cs c) i
    by_cases hr : Reach cs (i : Int)
    · rw [decide_eq_true hr]
      refine .inr ⟨rfl, ?_⟩
      refine (ix_lws hi').mpr ((ix_lws hi').mpr (lt_int.mpr ?_))
      rw [decide_eq_false (by omega)]
      exact .inl ⟨rfl, hN⟩
    · rw [decide_eq_false hr]
      exact .inl ⟨rfl, hN⟩
  · refine ne_nil16 (.inl ⟨rfl, ?_⟩)
    exact q c h1 _ ok dc1 rfl
end G
end S_MmA_k16
section S_MmB_k16
set_option linter.all false
set_option maxRecDepth 100000
/-! MmB: the law's parts, 2. -/
namespace G
open Dm
noncomputable def st1 (ns : List Int) (p : Nat) (a2 : Option D) (n : Int) (cs : List Call) (c : Call) (r : List (Option D)) : St := st0 ns p a2 n cs (some (sysD n (cs ++ [c])) :: some (.lst ((rch n cs).map D.int)) :: some (.tup ((lws n cs).map D.int)) :: some (.tup ((lws n (cs ++ [c])).map D.int)) :: r)
set_option maxHeartbeats 1000000 in
theorem w_kF {ns : List Int} {p : Nat} {M n : Int} {cs : List Call} {c : Call} {a2 : Option D} {R : TS} {P : En} {h : Hd} (sys : SysOk 6 9 M n cs) (hM : M ≤ 99) (ok : c.Ok n 20) (dc : DiceAt ns h p) {l : List (Option D)} (hl : l.length = 13)
    (q : ∀ h' l', DiceAt ns h' p → l'.length = 13 → R P (st1 ns p a2 n cs c l') h') : kF R P (st1 ns p a2 n cs c l) h := by
  obtain ⟨x10, x11, x12, x13, x14, x15, x16, x17, x18, x19, x20, x21, x22, rfl⟩ : ∃ x10 x11 x12 x13 x14 x15 x16 x17 x18 x19 x20 x21 x22, l = [x10, x11, x12, x13, x14, x15, x16, x17, x18, x19, x20, x21, x22] := by
    match l, hl with
    | [x10, x11, x12, x13, x14, x15, x16, x17, x18, x19, x20, x21, x22], _ => exact ⟨_, _, _, _, _, _, _, _, _, _, _, _, _, rfl⟩
  have nS := sys.nS
  have sys1 := wide20 sys (by omega) (by omega) hM
  have sys2 := app_sys sys hM ok
  have rl := rch_len n cs
  unfold kF st1 st0
  rw [w_seq]
  simp [-w_seq]
  refine forL_ind (fun r s h' => ∃ rs : List Int, ∃ y11 y12, r = rs.map D.int ∧ (∀ x ∈ rs, Reach cs x) ∧ DiceAt ns h' p ∧ s = [some (D.scr (List.map D.int ns)), some (D.ref p), a2, some (sysD n cs), some (D.int n), some (D.tup (List.map Call.d cs)), some (sysD n (cs ++ [c])), some (D.lst (List.map D.int (rch n cs))),
          some (D.tup (List.map D.int (lws n cs))), some (D.tup (List.map D.int (lws n (cs ++ [c])))), x10, y11, y12, x13, x14, x15, x16, x17, x18, x19, x20, x21, x22]) ?_ ?_ _ _ _ ⟨rch n cs, x11, x12, rfl, fun x hx => (rch_mem sys x).mp hx, dc, rfl⟩
  · rintro d r s h' K hK ⟨rs, y11, y12, er, hr, dc', rfl⟩
    cases rs with
    | nil => cases er
    | cons v rs =>
      cases er
      have rv := hr v List.mem_cons_self
      simp [-w_seq]
      rw [w_seq]
      simp [-w_seq]
      refine w_pickD dc' (fun e => ?_) (by rw [List.length_map]; omega) fun s h2 hs dc2 of2 => ?_
      · have := (rch_mem sys 0).mpr .zero
        rw [List.map_eq_nil_iff] at e
        rw [e] at this
        cases this
      obtain ⟨u, hu, rfl⟩ := List.mem_map.mp hs
      have ru := (rch_mem sys u).mp hu
      have L := less_app cs c
      have gv := rv.rg sys
      have gu := ru.rg sys
      refine w_difference sys2 (by omega) (by omega) (L.rch rv) (L.rch ru) ?_
      refine w_difference sys1 (by omega) (by omega) rv ru ?_
      have mono := gd_mono sys2 sys1 (by omega) (by omega) L (v + u + 1).toNat v u (by omega) rv ru
      refine lt_int.mpr ?_
      rw [decide_eq_false (by omega)]
      refine .inl ⟨rfl, hK _ _ ⟨rs, _, _, rfl, fun x hx => hr x (List.mem_cons_of_mem _ hx), dc2, rfl⟩⟩
  · rintro s h' ⟨rs, y11, y12, er, hr, dc', rfl⟩
    exact q h' _ dc' rfl
end G
end S_MmB_k16
section S_MmC_k16
set_option linter.all false
set_option maxRecDepth 100000
/-! MmC: the law's parts, 3. -/
namespace G
open Dm
set_option maxHeartbeats 1000000 in
theorem w_kW {ns : List Int} {p : Nat} {M n : Int} {cs : List Call} {c : Call} {a2 : Option D} {R : TS} {P : En} {h : Hd} (sys : SysOk 6 9 M n cs) (hM : M ≤ 99) (ok : c.Ok n 20) (dc : DiceAt ns h p) {l : List (Option D)} (hl : l.length = 13)
    (q : ∀ l', l'.length = 13 → R P (st1 ns p a2 n cs c l') h) : kW R P (st1 ns p a2 n cs c l) h := by
  obtain ⟨x10, x11, x12, x13, x14, x15, x16, x17, x18, x19, x20, x21, x22, rfl⟩ : ∃ x10 x11 x12 x13 x14 x15 x16 x17 x18 x19 x20 x21 x22, l = [x10, x11, x12, x13, x14, x15, x16, x17, x18, x19, x20, x21, x22] := by
    match l, hl with
    | [x10, x11, x12, x13, x14, x15, x16, x17, x18, x19, x20, x21, x22], _ => exact ⟨_, _, _, _, _, _, _, _, _, _, _, _, _, rfl⟩
  have nS := sys.nS
  have n1 := sys.n1
  have sys1 := wide20 sys (by omega) (by omega) hM
  have sys2 := app_sys sys hM ok
  have L := less_app cs c
  have mono : ∀ i : Int, lwin cs i ≤ lwin (cs ++ [c]) i := fun i => lwin_mono sys2 sys1 (by omega) (by omega) (by omega) L i
  unfold kW st1 st0
  rw [w_seq]
  simp [-w_seq]
  refine ⟨⟨by omega, by omega⟩, lc_dataP (f := fun i => D.int (lwin (cs ++ [c]) i)) (fun i K N hi hK => ?_) ?_⟩
  · simp [wipe]
    have hi' : (i : Int) < n := by omega
    refine (ix_lws hi').mpr ((ix_lws hi').mpr ?_)
    have := mono i
    show K (D.int (if lwin (cs ++ [c]) (i : Int) > lwin cs (i : Int) then lwin (cs ++ [c]) (i : Int) else lwin cs (i : Int))) h
    by_cases z : lwin (cs ++ [c]) (i : Int) > lwin cs (i : Int)
    · rw [if_pos z]
      exact hK
    · rw [if_neg z, show lwin cs (i : Int) = lwin (cs ++ [c]) (i : Int) by omega]
      exact hK
  rw [lws_d]
  simp only [bTuple, sq]
  refine ⟨_, rfl, ?_⟩
  have wl := lws_len (n := n) (by omega) (cs ++ [c])
  have wr : ∀ w ∈ lws n (cs ++ [c]), 0 ≤ w ∧ w ≤ 9999 := fun w hw => by
    obtain ⟨i, _, rfl⟩ := List.mem_map.mp hw
    exact lwin_rg sys2 (by omega) (by omega) i
  rw [w_seq]
  simp [-w_seq]
  refine w_least_reuse sys2 (by omega) (by omega) wl wr fun s2 lf2 => ?_
  refine w_least_reuse sys1 (by omega) (by omega) wl wr fun s1 lf1 => ?_
  have rm := reuse_mono sys2 sys1 (by omega) (by omega) L lf2 lf1
  refine lt_int.mpr ?_
  rw [decide_eq_false (by omega)]
  refine .inl ⟨rfl, ?_⟩
  have wg : ∀ i : Nat, (i : Int) < n → ((lws n (cs ++ [c]))[i]?).getD 0 = lwin (cs ++ [c]) i := fun i hi => by rw [lws_get hi]; rfl
  rw [w_seq]
  simp [-w_seq]
  refine w_double sys1 (by omega) (by omega) wl wr (fun _ => ?_) fun i es D => ?_
  · simp [oIsNotN, isNon]
    refine w_double sys2 (by omega) (by omega) wl wr (fun _ => ?_) fun i es D => ?_
    · simp
      exact q _ rfl
    · have := D.short
      rw [wg i D.lt] at this
      exact absurd this (by omega)
  · have := D.short
    rw [wg i D.lt] at this
    exact absurd this (by have := mono i; omega)
end G
end S_MmC_k16
section S_MmD_k16
set_option linter.all false
set_option maxRecDepth 100000
/-! MmD: an attempt added, and dropped again. -/
namespace G
open Dm
theorem idx_erase {l ms : List Int} (hl : l.Pairwise (· < ·)) (hm : ms.Pairwise (· < ·)) {o : Int} (ho : o ∉ l) (h : ∀ x, x ∈ ms ↔ x ∈ l ∨ x = o) : ms.eraseIdx (ms.idxOf o) = l := by
  have hmem : o ∈ ms := (h o).mpr (.inr rfl)
  have nd : ms.Nodup := hm.imp fun h e => by subst e; exact Int.lt_irrefl _ h
  have e : ms.eraseIdx (ms.idxOf o) = ms.erase o := (List.erase_eq_eraseIdx_of_idxOf rfl).symm
  rw [e]
  refine up_eq (hm.sublist List.erase_sublist) hl fun x => ?_
  rw [nd.mem_erase_iff, h x]
  constructor
  · rintro ⟨a, b | b⟩
    · exact b
    · exact absurd b a
  · intro b
    exact ⟨fun e => by subst e; exact ho b, .inl b⟩
theorem attsL_mem : ∀ (cs : List Call) (k0 k j : Nat), (k, j) ∈ attsL k0 cs ↔ ∃ i c, cs[i]? = some c ∧ k = k0 + i ∧ j < c.offs.length
  | [], k0, k, j => by simp [attsL]
  | c :: cs, k0, k, j => by
    have ih := attsL_mem cs (k0 + 1) k j
    rw [attsL, List.mem_append, ih]
    constructor
    · rintro (h | ⟨i, c', h1, h2, h3⟩)
      · obtain ⟨j', hj, e⟩ := List.mem_map.mp h
        cases e
        exact ⟨0, c, rfl, rfl, List.mem_range.mp hj⟩
      · exact ⟨i + 1, c', by simpa using h1, by omega, h3⟩
    · rintro ⟨i, c', h1, h2, h3⟩
      cases i with
      | zero =>
        simp at h1
        subst h1
        left
        exact List.mem_map.mpr ⟨j, List.mem_range.mpr h3, by rw [h2]; simp⟩
      | succ i => exact .inr ⟨i, c', by simpa using h1, by omega, h3⟩
/-- the widened system without the new attempt is what it was -/
theorem woC_back {cs : List Call} {k : Nat} {c : Call} {ms : List Int} {o : Int} (hk : cs[k]? = some c) (up : c.offs.Pairwise (· < ·)) (hm : ms.Pairwise (· < ·)) (ho : o ∉ c.offs) (h : ∀ x, x ∈ ms ↔ x ∈ c.offs ∨ x = o) : woC [(k, ms.idxOf o)] (cs.set k { c with offs := ms }) = cs := by
  have hkl := (List.getElem?_eq_some_iff.mp hk).1
  apply List.ext_getElem?
  intro i
  rw [woC_get]
  by_cases e : i = k
  · subst e
    rw [List.getElem?_set_self hkl, hk]
    simp only [Option.map_some, cutC, Option.some.injEq]
    rw [kept_one _ _ _ _ (Nat.zero_le _), Nat.sub_zero, idx_erase up hm ho h]
  · rw [List.getElem?_set_ne (Ne.symm e)]
    cases q : cs[i]? with
    | none => rfl
    | some d =>
      simp only [Option.map_some, cutC, Option.some.injEq]
      rw [kept_other _ _ _ e]
theorem woOk_back {cs : List Call} {k : Nat} {c : Call} {ms : List Int} {o : Int} (hk : cs[k]? = some c) (ne : ∀ d ∈ cs, d.offs ≠ []) (up : c.offs.Pairwise (· < ·)) (hm : ms.Pairwise (· < ·)) (ho : o ∉ c.offs) (h : ∀ x, x ∈ ms ↔ x ∈ c.offs ∨ x = o) : WoOk [(k, ms.idxOf o)] (cs.set k { c with offs := ms }) := fun i d hd => by
  have hkl := (List.getElem?_eq_some_iff.mp hk).1
  by_cases e : i = k
  · subst e
    rw [List.getElem?_set_self hkl] at hd
    cases hd
    rw [kept_one _ _ _ _ (Nat.zero_le _), Nat.sub_zero, idx_erase up hm ho h]
    exact ne c (List.mem_of_getElem? hk)
  · rw [List.getElem?_set_ne (Ne.symm e)] at hd
    rw [kept_other _ _ _ e]
    exact ne d (List.mem_of_getElem? hd)
end G
end S_MmD_k16
section S_MmE_k16
set_option linter.all false
set_option maxRecDepth 100000
/-! MmE: the law's parts, 4. -/
namespace G
open Dm
theorem cut_to16 {α : Type} (xs : List α) (k : Nat) : cutP xs none (some (k : Int)) = xs.take k := by
  unfold cutP clampP
  simp
  rw [if_neg (by omega)]
  omega
theorem cut_from16 {α : Type} (xs : List α) (k : Nat) : cutP xs (some ((k : Int) + 1)) none = xs.drop (k + 1) := by
  unfold cutP clampP
  have e : min ((k : Int) + 1).toNat xs.length = min (k + 1) xs.length := by congr 1
  simp only
  rw [if_neg (by omega), e]
  by_cases h : k + 1 ≤ xs.length
  · rw [Nat.min_eq_left h]
    exact List.take_of_length_le (by rw [List.length_drop]; omega)
  · rw [Nat.min_eq_right (by omega), List.drop_of_length_le (Nat.le_refl _), List.drop_of_length_le (by omega)]
    simp
theorem eqv_lws {a b : List Int} {h : Hd} {Q : QP} (e : a = b) (q : Q (.bl false) h) : oNe (.tup (a.map D.int)) (.tup (b.map D.int)) h Q := by
  subst e
  have p1 : plain 50 (.tup (a.map D.int)) = true := by simp [plain, plainL_ints]
  refine ⟨p1, p1, ?_⟩
  have : eqv (vw h (.tup (a.map D.int))) (vw h (.tup (a.map D.int))) = true := by
    show eqv (.tup (a.map D.int)) (.tup (a.map D.int)) = true
    rw [eqv_tups]
    simp
  rw [this]
  exact q
theorem effs_mem16 {n : Int} {cs : List Call} {l : List (Nat × Nat)} {d : D} (h : d ∈ effs n cs l) : ∃ a, WoOk [a] cs ∧ d = .tup [drD a, lwD n (woC [a] cs)] := by
  unfold effs at h
  obtain ⟨a, _, e⟩ := List.mem_filterMap.mp h
  split at e
  · rename_i ok
    cases e
    exact ⟨a, ok, rfl⟩
  · cases e
set_option maxHeartbeats 2000000 in
theorem w_kT {ns : List Int} {p : Nat} {M n : Int} {cs : List Call} {c0 : Call} {a2 : Option D} {P : En} {h : Hd} (sys : SysOk 6 9 M n cs) (hM : M ≤ 99) (ok : c0.Ok n 20) (dc : DiceAt ns h p) {l : List (Option D)} (hl : l.length = 13)
    (q : ∀ h' l', DiceAt ns h' p → l'.length = 13 → P.nx (st1 ns p a2 n cs c0 l') h') : kT P (st1 ns p a2 n cs c0 l) h := by
  obtain ⟨x10, x11, x12, x13, x14, x15, x16, x17, x18, x19, x20, x21, x22, rfl⟩ : ∃ x10 x11 x12 x13 x14 x15 x16 x17 x18 x19 x20 x21 x22, l = [x10, x11, x12, x13, x14, x15, x16, x17, x18, x19, x20, x21, x22] := by
    match l, hl with
    | [x10, x11, x12, x13, x14, x15, x16, x17, x18, x19, x20, x21, x22], _ => exact ⟨_, _, _, _, _, _, _, _, _, _, _, _, _, rfl⟩
  have nS := sys.nS
  have n1 := sys.n1
  have cl := sys.len
  have sys2 := app_sys sys hM ok
  unfold kT st1 st0
  rw [w_seq]
  simp [-w_seq]
  simp only [bLen, sq]
  refine ⟨_, rfl, ?_⟩
  rw [List.length_map]
  refine add_int.mpr ?_
  refine w_next dc (by omega) (by omega) fun v h1 v0 v1 dc1 of1 => ?_
  obtain ⟨k, rfl⟩ : ∃ k : Nat, v = k := ⟨v.toNat, by omega⟩
  have hkl : k < (cs ++ [c0]).length := by simp; omega
  have hk : (cs ++ [c0])[k]? = some (cs ++ [c0])[k] := List.getElem?_eq_getElem hkl
  generalize (cs ++ [c0])[k] = c at hk
  have hc := List.mem_of_getElem? hk
  have cok := sys2.cs c hc
  rw [w_seq]
  simp [-w_seq]
  refine ix_sys1.mpr ((ix_calls hk).mpr ?_)
  have ed : c.d = .tup [.int c.c, .int c.t, .tup (c.offs.map D.int), .int c.lo, .int c.hi] := rfl
  rw [ed]
  simp [-w_seq]
  simp only [bLen, sq]
  refine ⟨_, rfl, lt_int.mpr ?_⟩
  rw [List.length_map]
  by_cases h4 : (c.offs.length : Int) < 4
  · rw [decide_eq_true h4]
    refine .inr ⟨rfl, ?_⟩
    unfold kJ
    rw [w_seq]
    simp [-w_seq]
    refine w_next dc1 (by omega) (by omega) fun o h2 o0 o1 dc2 of2 => ?_
    rw [w_seq]
    simp [-w_seq]
    refine ⟨by simp [lim], add_tup.mpr ⟨by simp [lim]; omega, ?_⟩⟩
    have e0 : c.offs.map D.int ++ [D.int o] = (c.offs ++ [o]).map D.int := by simp
    rw [e0]
    simp only [bSet, sq]
    refine ⟨_, c.offs ++ [o], rfl, intsOf_map _, by simp; omega, ?_⟩
    simp only [bSortedSet]
    intro ms hm hms
    simp only [bTupleK, sqL]
    refine ⟨_, rfl, ?_⟩
    have hms' : ∀ x, x ∈ ms ↔ x ∈ c.offs ∨ x = o := fun x => by rw [hms x]; simp
    have hlen : ms.length ≤ c.offs.length + 1 := by
      have := nodup_len hm fun x hx => (hms x).mp hx
      simpa using this
    have hlen2 : c.offs.length ≤ ms.length := nodup_len cok.up fun x hx => (hms' x).mpr (.inl hx)
    rw [w_seq]
    simp [-w_seq]
    simp only [eSl, w_bin, w_var, w_c]
    refine ⟨_, rfl, ix_sys1.mpr ?_⟩
    refine ⟨_, rfl, _, rfl, ?_⟩
    simp only [cut_to16]
    refine ⟨by simp [lim], by simp [lim], ?_⟩
    refine add_tup.mpr ⟨by simp [lim]; omega, ?_⟩
    refine ⟨_, rfl, ix_sys1.mpr ?_⟩
    refine ⟨_, rfl, add_int.mpr ⟨_, rfl, ?_⟩⟩
    simp only [cut_from16]
    refine add_tup.mpr ⟨by simp [lim]; omega, ?_⟩
    refine ⟨by simp [lim], ?_⟩
    have ef : D.tup [.int n, .tup (((cs ++ [c0]).map Call.d).take k ++ [D.tup [.int c.c, .int c.t, .tup (ms.map D.int), .int c.lo, .int c.hi]] ++ ((cs ++ [c0]).map Call.d).drop (k + 1))] = sysD n ((cs ++ [c0]).set k { c with offs := ms }) := by
      rw [List.set_eq_take_append_cons_drop, if_pos hkl, ← List.map_take, ← List.map_drop]
      simp [sysD, Call.d]
    simp only [ef]
    have lessF : Less (cs ++ [c0]) ((cs ++ [c0]).set k { c with offs := ms }) := less_set (n := 0) (S := 0) (C := 0) (M := 0) hk cok.ne hm (fun x hx => (hms' x).mpr (.inl hx)) hlen2
    have sysF : SysOk 8 20 99 n ((cs ++ [c0]).set k { c with offs := ms }) := ⟨n1, by omega, by simp; omega, fun d hd => by
      rcases List.mem_or_eq_of_mem_set hd with hd | rfl
      · exact sys2.cs d hd
      · exact ⟨cok.c0, cok.ct, cok.tn, fun e => by
          have : ms = [] := e
          have := cok.ne
          have hz := List.length_pos_iff.mpr this
          simp_all, by show ms.length ≤ 4; omega, hm, fun x hx => by
          rcases (hms' x).mp hx with h | h
          · exact cok.rg x h
          · omega, cok.lo0, cok.lh, cok.hM⟩⟩
    have woB : o ∉ c.offs → woC [(k, ms.idxOf o)] ((cs ++ [c0]).set k { c with offs := ms }) = cs ++ [c0] := fun no => woC_back hk cok.up hm no hms'
    have woO : o ∉ c.offs → WoOk [(k, ms.idxOf o)] ((cs ++ [c0]).set k { c with offs := ms }) := fun no => woOk_back hk (fun d hd => (sys2.cs d hd).ne) cok.up hm no hms'
    have atF : (k, ms.idxOf o) ∈ attsL 0 ((cs ++ [c0]).set k { c with offs := ms }) := (attsL_mem _ 0 k _).mpr ⟨k, _, List.getElem?_set_self hkl, by omega, List.idxOf_lt_length_iff.mpr ((hms' o).mpr (.inr rfl))⟩
    have ml : ms.length ≤ 4 := by omega
    generalize (cs ++ [c0]).set k { c with offs := ms } = fs at lessF sysF woB woO atF ⊢
    rw [w_seq]
    simp [-w_seq]
    refine ⟨⟨by omega, by omega⟩, lc_none (fun i K N hi hN => ?_) ?_⟩
    · have hi' : (i : Int) < n := by omega
      simp [wipe]
      refine w_least sysF (by omega) (by omega) ?_
      rw [lws_d]
      refine (ix_lws hi').mpr ((ix_lws hi').mpr (lt_int.mpr ?_))
      have mono := lwin_mono sysF sys2 (by omega) (by omega) (by omega) lessF i
      rw [decide_eq_false (by omega)]
      exact .inl ⟨rfl, hN⟩
    refine ne_nil16 (.inl ⟨rfl, ?_⟩)
    simp only [bLen, sq]
    refine ⟨_, rfl, _, rfl, gt_int.mpr ?_⟩
    rw [List.length_map, List.length_map]
    by_cases hg : c.offs.length < ms.length
    · rw [decide_eq_true (by omega)]
      refine .inr ⟨rfl, ?_⟩
      have no : o ∉ c.offs := fun ho => by
        have := nodup_len hm fun x hx => ((hms' x).mp hx).elim id fun e => by rw [e]; exact ho
        omega
      refine w_drop sysF (by omega) (by omega) ?_
      have al := attsL_len sysF fs 0 fun d hd => hd
      have sl := sysF.len
      have el : (effs n fs (attsL 0 fs)).length ≤ (attsL 0 fs).length := List.length_filterMap_le _ _
      refine ⟨_, rfl, by simp only [lim]; omega, fun d hd => ?_, ms, rfl, (hms' o).mpr (.inr rfl), by simp [lim], ⟨rfl, rfl⟩, ?_, fun ks v hv he => ?_⟩
      · obtain ⟨a, _, rfl⟩ := effs_mem16 hd
        exact ⟨[.int a.1, .int a.2], ⟨_, rfl⟩, fun x hx => by
          rcases List.mem_cons.mp hx with rfl | hx
          · rfl
          · rw [List.mem_singleton.mp hx]; rfl⟩
      · refine ⟨[.int (k : Nat), .int (ms.idxOf o : Nat)], ⟨lwD n (woC [(k, ms.idxOf o)] fs), ?_⟩, ?_⟩
        · unfold effs
          refine List.mem_filterMap.mpr ⟨_, atF, ?_⟩
          rw [if_pos (woO no)]
          rfl
        · simp [eqvL, eqv]
      · obtain ⟨a, wa, e⟩ := effs_mem16 hv
        cases e
        have ea : a = (k, ms.idxOf o) := by
          have := eqv_dr a (k, ms.idxOf o)
          have h2 : eqv (drD a) (drD (k, ms.idxOf o)) = true := by
            simpa [drD, eqv] using he
          rw [h2] at this
          simpa using this
        rw [ea, woB no]
        unfold lwD
        rw [lws_d]
        exact eqv_lws rfl (.inl ⟨rfl, q h2 _ dc2 rfl⟩)
    · rw [decide_eq_false (by omega)]
      exact .inl ⟨rfl, q h2 _ dc2 rfl⟩
  · rw [decide_eq_false h4]
    exact .inl ⟨rfl, q h1 _ dc1 rfl⟩
end G
end S_MmE_k16
section S_LAW_k16
set_option linter.all false
set_option maxRecDepth 100000
namespace G
open Dm
set_option maxHeartbeats 1000000 in
theorem w_kB {ns : List Int} {p : Nat} {P : En} {h : Hd} {s : St} (dc : DiceAt ns h p) {a2 : Option D} {l : List (Option D)} (hs : s = some (.scr (ns.map D.int)) :: some (.ref p) :: a2 :: l) (hl : l.length = 20)
    (q : ∀ h' l', DiceAt ns h' p → l'.length = 20 → P.nx (some (.scr (ns.map D.int)) :: some (.ref p) :: a2 :: l') h') : kB P s h := by
  subst hs
  obtain ⟨x3, x4, x5, r, rfl, hr⟩ : ∃ x3 x4 x5 r, l = x3 :: x4 :: x5 :: r ∧ r.length = 17 := by
    match l, hl with
    | x3 :: x4 :: x5 :: r, hl => exact ⟨x3, x4, x5, r, rfl, by simpa using hl⟩
  unfold kB
  rw [w_seq]
  simp [-w_seq]
  refine ⟨by simp [lim], ?_⟩
  refine w_next dc (by omega) (by omega) fun v h1 v0 v1 dc1 of1 => ?_
  refine (ix_two v0 v1).mpr ?_
  have hM : (if v = 0 then (3 : Int) else 20) ≤ 20 ∧ 0 ≤ (if v = 0 then (3 : Int) else 20) := by split <;> omega
  generalize (if v = 0 then (3 : Int) else 20) = M at hM ⊢
  refine w_lawsystem dc1 (by omega) (by omega) (by omega) (by omega) (by omega) (by omega) fun n cs h2 sys dc2 of2 => ?_
  have es : sysD n cs = .tup [.int n, .tup (cs.map Call.d)] := rfl
  rw [w_seq]
  simp [-w_seq]
  rw [es]
  simp [-w_seq]
  rw [← es]
  refine gt_int.mpr ?_
  by_cases hn : 1 < n
  · rw [decide_eq_true hn]
    refine .inr ⟨rfl, ?_⟩
    refine w_kH (a2 := a2) (l := r) sys (by omega) (by omega) dc2 hr fun c h3 l3 ok dc3 hl3 => ?_
    refine w_kF sys (by omega) ok dc3 hl3 fun h4 l4 dc4 hl4 => ?_
    refine w_kW sys (by omega) ok dc4 hl4 fun l5 hl5 => ?_
    refine w_kT sys (by omega) ok dc4 hl5 fun h6 l6 dc6 hl6 => ?_
    exact q h6 _ dc6 (by simp [hl6])
  · rw [decide_eq_false hn]
    exact .inl ⟨rfl, q h2 _ dc2 (by simp [hr])⟩
theorem law_holds : ∀ ds h E Q, Dm.spLaw ds h E Q → sp_law ds h E Q := by
  rintro ds h E Q ⟨ns, rfl, hns, rfl, q⟩
  refine ⟨rfl, ?_⟩
  rw [law_parts, w_seq]
  simp [-w_seq, dstart]
  refine w_dice fun p h1 hp0 dc0 of0 => ?_
  rw [w_seq]
  simp [-w_seq]
  refine forL_rng (I := fun _ s h => DiceAt ns h p ∧ ∃ a2 l, s = some (.scr (ns.map D.int)) :: some (.ref p) :: a2 :: l ∧ l.length = 20) ?_ ?_ ⟨dc0, none, List.replicate 20 none, rfl, rfl⟩
  · rintro tn s h K _ hK ⟨dc, a2, l, rfl, hl⟩
    simp only [w_gN]
    exact w_kB dc rfl hl fun h' l' dc' hl' => ⟨trivial, hK _ _ ⟨dc', _, l', rfl, hl'⟩⟩
  · rintro s h ⟨dc, a2, l, rfl, hl⟩
    simp
    exact ⟨h, Sub.refl h, q h⟩
end G
end S_LAW_k16
section S_G3_k16
set_option maxHeartbeats 0
open PySem PySem.W PySem.Calls PyProof.Rows
theorem PySem.Challenge.cw_onceonly_k16_whole_more_attempts_need_mo_holds : PySem.Challenge.rw_onceonly_k16_whole_more_attempts_need_mo.Holds := by
  w_on; o_law
  refine HandSHeadRun.head_any (r := OpenLaw.row PySem.Challenge.rw_onceonly_k16_whole_more_attempts_need_mo) (q := view (OpenLaw.row PySem.Challenge.rw_onceonly_k16_whole_more_attempts_need_mo).prog [44]) (H := HT.hk) (ob := HT.ob) (M := 9000) (loose := HT.loose) (d := HandSHeadRun.topDef (OpenLaw.row PySem.Challenge.rw_onceonly_k16_whole_more_attempts_need_mo).prog 44) (kwd := []) HT.ob_eq
    (by kernel_rfl) (fun s => by kernel_rfl) HT.run (by kernel_rfl) (by kernel_rfl) (by kernel_rfl) (by rfl) (by first | assumption | decide +kernel) (by decide +kernel) ⟨rfl, rfl, rfl, rfl, rfl, by decide +kernel⟩ ?hw ?hc
  case hw => w_witness2
  case hc =>
    refine LamX.walk_ofTsE (l := PySem.Challenge.rw_onceonly_k16_whole_more_attempts_need_mo) (n := 63) (k := 8) (x := "_law_script") (CX := fun _ => L2.CX0) rfl (by decide) (by kernel_rfl) ⟨rfl, by decide, by decide⟩ ?F (fun _ _ _ _ _ z => z)
    intro w mg fa h Y G hmg0
    obtain ⟨K, KX, c, T⟩ := Y
    have hmg : mg ("law" : PySem.Str) = some (.ref fa) := by
      have e : (HandSHeadRun.topDef (OpenLaw.row PySem.Challenge.rw_onceonly_k16_whole_more_attempts_need_mo).prog 44).name = ("law" : PySem.Str) := by kernel_rfl
      rw [← e]
      exact hmg0
    have e := hmg.symm.trans (He.glo_ok KX G (c.fact 56 (f := .glo "law") rfl))
    cases e
    obtain ⟨fd, F⟩ := c.def_ 31 (d := HT.d_law) rfl
    have b := L2.FunD.bindsA (ps := ["_law_script"]) F fun _ _ _ _ _ _ us hl => match us, hl with | [_], _ => rfl
    refine ⟨K, KX, fd, HT.xsT.map (fun x => (Hx.cAd K x, Hx.tAd K x)), Dr.LSp (Dr.gK K (PySem.Challenge.rw_onceonly_k16_whole_more_attempts_need_mo).prog w (HT.cmK K)) Dm.spLaw, fun p hp => ?_, fun p hp => ?_, fun p hp => ?_, fun s v => b s [v] rfl, fun H a ns hl _ ht hS => Dr.law_sp (cs := HT.xsT.map (fun x => (Hx.cAd K x, Hx.tAd K x))) (q := ("law" ++ ".<locals>.") ++ "<lambda>") hl rfl ht hS, fun base _ _ TB => ?_⟩
    · obtain ⟨x, hx, rfl⟩ := List.mem_map.mp hp
      exact (T x hx).tb
    · obtain ⟨x, hx, rfl⟩ := List.mem_map.mp hp
      exact (T x hx).no
    · obtain ⟨x, hx, rfl⟩ := List.mem_map.mp hp
      exact (T x hx).hd
    obtain ⟨fd', F', ok, _⟩ := HT.ok_law (P := (PySem.Challenge.rw_onceonly_k16_whole_more_attempts_need_mo).prog) (w := w) (base := base) KX G c
    have ef : fd' = fd := Dr.fd_uniq F' F
    subst ef
    exact Dr.fn_spec ok _root_.G.law_holds
end S_G3_k16
