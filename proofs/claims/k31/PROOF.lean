import PyProof.Rows.All
import Wide.All
import OpenK.AllK
import Wide.FinOn
import HandS.ForMost
import HandS.Exc
import HandS.TryOnly
import HandS.ExcOwn
import HandS.WordsExc
import HandS.Defaults
import HandS.Flow
import HandS.Style
import HandS.StrMore
import HandS.FStr
import HandS.ExcIs
import HandS.TupAny
import KE.SortData
import KE.KDictKeyed
import HandS.Zip
import HandS.RevRange
import KE.KxIndex
import HandS.TupLen
import HandS.Text
import HandS.IsInst
import HandS.Deep
import HandS.WordsDict
import HandS.Conv
import HandS.Iter
import HandS.Dict
import HandS.More
import KE.KDictSum
import KE.KDictPairs
import KE.DataMinMax
import HandS.SortKw
import KE.DatumOrd
import HandS.CallLocal
import HandS.Strs
import PyProof.Rows.SetFrom
import HandS.TupSets
import HandS.DictTup
import KE.KStateDown
import HandS.Head0
import HandS.Head1
import HandS.Head2
import HandS.HeadEnd
import HandS.HeadHook1
import HandS.HeadHook2
import PySem.Challenge.RW_twinshelves_k31_whole_forgotten_for_good
set_option Elab.async false
set_option linter.all false
set_option maxRecDepth 100000
set_option maxHeartbeats 0
namespace LW
open PySem L2
def top (i : Nat) : Stmt := PySem.Challenge.pw_twinshelves_k31_whole_forgotten_for_good.main.body.getD i (.Pass ⟨0, 0, 0, 0⟩)
abbrev s0 : Stmt := top 21
def d0 : He.DefD := ⟨("_law_mix", none), "_law_mix", "_law_mix", defArgs s0, defBody s0, defScope s0, [], []⟩
abbrev s1 : Stmt := top 22
def d1 : He.DefD := ⟨("_law_perm", none), "_law_perm", "_law_perm", defArgs s1, defBody s1, defScope s1, [], []⟩
abbrev s2 : Stmt := top 20
def d2 : He.DefD := ⟨("_law_cell", none), "_law_cell", "_law_cell", defArgs s2, defBody s2, defScope s2, [], []⟩
abbrev s3 : Stmt := inClass (top 18) 0
def d3 : He.DefD := ⟨("House", some "__init__"), "__init__", "House.__init__", defArgs s3, defBody s3, defScope s3, [], []⟩
abbrev s4 : Stmt := top 26
def d4 : He.DefD := ⟨("_law_start", none), "_law_start", "_law_start", defArgs s4, defBody s4, defScope s4, [], []⟩
abbrev s5 : Stmt := top 27
def d5 : He.DefD := ⟨("_law_left", none), "_law_left", "_law_left", defArgs s5, defBody s5, defScope s5, [], []⟩
abbrev s6 : Stmt := top 28
def d6 : He.DefD := ⟨("_law_files", none), "_law_files", "_law_files", defArgs s6, defBody s6, defScope s6, [], []⟩
abbrev s7 : Stmt := top 25
def d7 : He.DefD := ⟨("_law_same", none), "_law_same", "_law_same", defArgs s7, defBody s7, defScope s7, [], []⟩
abbrev s8 : Stmt := top 16
def d8 : He.DefD := ⟨("is_gone", none), "is_gone", "is_gone", defArgs s8, defBody s8, defScope s8, [], []⟩
abbrev s9 : Stmt := inClass (top 18) 12
def d9 : He.DefD := ⟨("House", some "ids"), "ids", "House.ids", defArgs s9, defBody s9, defScope s9, [], []⟩
abbrev s10 : Stmt := inClass (top 18) 13
def d10 : He.DefD := ⟨("House", some "gone"), "gone", "House.gone", defArgs s10, defBody s10, defScope s10, [], []⟩
abbrev s11 : Stmt := inClass (top 18) 18
def d11 : He.DefD := ⟨("House", some "heard"), "heard", "House.heard", defArgs s11, defBody s11, defScope s11, [], []⟩
abbrev s12 : Stmt := inClass (top 18) 2
def d12 : He.DefD := ⟨("House", some "count"), "count", "House.count", defArgs s12, defBody s12, defScope s12, [], []⟩
abbrev s13 : Stmt := inClass (top 18) 1
def d13 : He.DefD := ⟨("House", some "number"), "number", "House.number", defArgs s13, defBody s13, defScope s13, [], []⟩
abbrev s14 : Stmt := inClass (top 18) 11
def d14 : He.DefD := ⟨("House", some "file"), "file", "House.file", defArgs s14, defBody s14, defScope s14, [], []⟩
abbrev s15 : Stmt := top 31
def d15 : He.DefD := ⟨("_law_is_right", none), "_law_is_right", "_law_is_right", defArgs s15, defBody s15, defScope s15, [], []⟩
abbrev s16 : Stmt := top 36
def d16 : He.DefD := ⟨("_law_is_out", none), "_law_is_out", "_law_is_out", defArgs s16, defBody s16, defScope s16, [], []⟩
abbrev s17 : Stmt := inClass (top 18) 20
def d17 : He.DefD := ⟨("House", some "told_by"), "told_by", "House.told_by", defArgs s17, defBody s17, defScope s17, [], []⟩
abbrev s18 : Stmt := top 12
def d18 : He.DefD := ⟨("known_together", none), "known_together", "known_together", defArgs s18, defBody s18, defScope s18, [], []⟩
abbrev s19 : Stmt := top 11
def d19 : He.DefD := ⟨("is_within", none), "is_within", "is_within", defArgs s19, defBody s19, defScope s19, [], []⟩
abbrev s20 : Stmt := top 13
def d20 : He.DefD := ⟨("kept_of", none), "kept_of", "kept_of", defArgs s20, defBody s20, defScope s20, [], []⟩
abbrev s21 : Stmt := top 14
def d21 : He.DefD := ⟨("marked_together", none), "marked_together", "marked_together", defArgs s21, defBody s21, defScope s21, [], []⟩
abbrev s22 : Stmt := top 15
def d22 : He.DefD := ⟨("put_together", none), "put_together", "put_together", defArgs s22, defBody s22, defScope s22, [], []⟩
abbrev s23 : Stmt := inClass (top 18) 17
def d23 : He.DefD := ⟨("House", some "take"), "take", "House.take", defArgs s23, defBody s23, defScope s23, [], []⟩
abbrev s24 : Stmt := inClass (top 18) 23
def d24 : He.DefD := ⟨("House", some "lead_on"), "lead_on", "House.lead_on", defArgs s24, defBody s24, defScope s24, [], []⟩
abbrev s25 : Stmt := top 30
def d25 : He.DefD := ⟨("_law_tell", none), "_law_tell", "_law_tell", defArgs s25, defBody s25, defScope s25, [], []⟩
abbrev s26 : Stmt := top 35
def d26 : He.DefD := ⟨("_law_all_told", none), "_law_all_told", "_law_all_told", defArgs s26, defBody s26, defScope s26, [], []⟩
abbrev s27 : Stmt := inClass (top 18) 21
def d27 : He.DefD := ⟨("House", some "can_forget"), "can_forget", "House.can_forget", defArgs s27, defBody s27, defScope s27, [], []⟩
abbrev s28 : Stmt := inClass (top 18) 22
def d28 : He.DefD := ⟨("House", some "forget"), "forget", "House.forget", defArgs s28, defBody s28, defScope s28, [], []⟩
abbrev s29 : Stmt := top 33
def d29 : He.DefD := ⟨("_law_forget", none), "_law_forget", "_law_forget", defArgs s29, defBody s29, defScope s29, [], []⟩
abbrev s30 : Stmt := top 23
def d30 : He.DefD := ⟨("_law_name", none), "_law_name", "_law_name", defArgs s30, defBody s30, defScope s30, [], []⟩
abbrev s31 : Stmt := top 24
def d31 : He.DefD := ⟨("_law_text", none), "_law_text", "_law_text", defArgs s31, defBody s31, defScope s31, [], []⟩
abbrev s32 : Stmt := top 8
def d32 : He.DefD := ⟨("is_name", none), "is_name", "is_name", defArgs s32, defBody s32, defScope s32, [], []⟩
abbrev s33 : Stmt := inClass (top 18) 5
def d33 : He.DefD := ⟨("House", some "must_be_name"), "must_be_name", "House.must_be_name", defArgs s33, defBody s33, defScope s33, [], []⟩
abbrev s34 : Stmt := top 9
def d34 : He.DefD := ⟨("is_text", none), "is_text", "is_text", defArgs s34, defBody s34, defScope s34, [], []⟩
abbrev s35 : Stmt := inClass (top 18) 6
def d35 : He.DefD := ⟨("House", some "must_be_text"), "must_be_text", "House.must_be_text", defArgs s35, defBody s35, defScope s35, [], []⟩
abbrev s36 : Stmt := inClass (top 18) 3
def d36 : He.DefD := ⟨("House", some "next_mark"), "next_mark", "House.next_mark", defArgs s36, defBody s36, defScope s36, [], []⟩
abbrev s37 : Stmt := inClass (top 18) 7
def d37 : He.DefD := ⟨("House", some "make"), "make", "House.make", defArgs s37, defBody s37, defScope s37, [], []⟩
abbrev s38 : Stmt := inClass (top 18) 4
def d38 : He.DefD := ⟨("House", some "there"), "there", "House.there", defArgs s38, defBody s38, defScope s38, [], []⟩
abbrev s39 : Stmt := inClass (top 18) 8
def d39 : He.DefD := ⟨("House", some "write"), "write", "House.write", defArgs s39, defBody s39, defScope s39, [], []⟩
abbrev s40 : Stmt := inClass (top 18) 9
def d40 : He.DefD := ⟨("House", some "rename"), "rename", "House.rename", defArgs s40, defBody s40, defScope s40, [], []⟩
abbrev s41 : Stmt := inClass (top 18) 10
def d41 : He.DefD := ⟨("House", some "drop"), "drop", "House.drop", defArgs s41, defBody s41, defScope s41, [], []⟩
abbrev s42 : Stmt := top 29
def d42 : He.DefD := ⟨("_law_deed", none), "_law_deed", "_law_deed", defArgs s42, defBody s42, defScope s42, [], []⟩
abbrev s43 : Stmt := top 32
def d43 : He.DefD := ⟨("_law_led", none), "_law_led", "_law_led", defArgs s43, defBody s43, defScope s43, [], []⟩
abbrev s44 : Stmt := top 34
def d44 : He.DefD := ⟨("_law_turn", none), "_law_turn", "_law_turn", defArgs s44, defBody s44, defScope s44, [], []⟩
abbrev s45 : Stmt := top 37
def d45 : He.DefD := ⟨("law", none), "law", "law", defArgs s45, defBody s45, defScope s45, [], []⟩
def fn : List He.DefD := [d0, d1, d2, d3, d4, d5, d6, d7, d8, d9, d10, d11, d12, d13, d14, d15, d16, d17, d18, d19, d20, d21, d22, d23, d24, d25, d26, d27, d28, d29, d30, d31, d32, d33, d34, d35, d36, d37, d38, d39, d40, d41, d42, d43, d44, d45]
def fa : List He.Fa := [.glo "_law_mix",
  .glo "_law_perm",
  .glo "_law_cell",
  .glo "_law_start",
  .glo "_law_left",
  .glo "_law_files",
  .glo "_law_same",
  .glo "is_gone",
  .glo "_law_is_right",
  .glo "_law_is_out",
  .glo "known_together",
  .glo "is_within",
  .glo "kept_of",
  .glo "marked_together",
  .glo "put_together",
  .glo "_law_tell",
  .glo "_law_all_told",
  .glo "_law_forget",
  .glo "_law_name",
  .glo "_law_text",
  .glo "is_name",
  .glo "is_text",
  .glo "_law_deed",
  .glo "_law_led",
  .glo "_law_turn",
  .glo "law",
  .free "len",
  .free "isinstance",
  .free "all",
  .free "any",
  .free "range",
  .free "sorted",
  .free "tuple",
  .free "dict",
  .free "set",
  .free "list",
  .free "str",
  .free "int",
  .free "bool",
  .free "max",
  .free "zip",
  .str "LETTERS" "abcdefghijklmnopqrstuvwxyz",
  .glo "House",
  .cls "House",
  .mkr "House",
  .meth "House" "ids",
  .meth "House" "gone",
  .meth "House" "heard",
  .meth "House" "count",
  .meth "House" "number",
  .meth "House" "file",
  .meth "House" "told_by",
  .meth "House" "take",
  .meth "House" "lead_on",
  .meth "House" "can_forget",
  .meth "House" "forget",
  .meth "House" "must_be_name",
  .meth "House" "must_be_text",
  .meth "House" "next_mark",
  .meth "House" "make",
  .meth "House" "there",
  .meth "House" "write",
  .meth "House" "rename",
  .meth "House" "drop",
  .noat "House" "own",
  .noat "House" "acts",
  .noat "House" "shelf",
  .noat "House" "told",
  .glo "NoFile",
  .exc "NoFile",
  .glo "NoName",
  .exc "NoName",
  .glo "NoWords",
  .exc "NoWords"]
def loose0 : List PySem.Str := ["_wall", "__name__", "ShelfError", "NoFile", "NoName", "NoWords", "LETTERS", "is_name", "is_text", "is_within", "known_together", "kept_of", "marked_together", "put_together", "is_gone", "House", "_law_cell", "_law_mix", "_law_perm", "_law_name"]
def loose1 : List PySem.Str := ["_law_text", "_law_same", "_law_start", "_law_left", "_law_files", "_law_deed", "_law_tell", "_law_is_right", "_law_led", "_law_forget", "_law_turn", "_law_all_told", "_law_is_out"]
def loose : List PySem.Str := loose0 ++ loose1
abbrev R : PySem.W.OpenRow := PySem.W.OpenLaw.row PySem.Challenge.rw_twinshelves_k31_whole_forgotten_for_good
abbrev hk : PySem.W.Hook := He.hookD 5 fa fn
def ob (s : PySem.W.SharedT) : He.AlD := He.obsDG 5 fa fn (HandSHeadRun.getT s)
theorem ob_eq (s : PySem.W.SharedT) : ob s = hk.obs s.abs := He.obsDG_eq (HandSHeadRun.getT_eq s)
theorem run (w : World) : HandSHeadRun.RunEq R (PySem.W.view R.prog [37]) hk ob 20000 loose w := by
  intro os
  kernel_rfl
end LW
namespace MM
open PySem L2
/-- a value: data (a tuple, a frozen list), or a mutable object, or a def -/
inductive Val where
  | non | bl (b : Bool) | int (i : Int) | str (x : Str)
  | tup (xs : List Val) | lst (xs : List Val)
  | ref (n : Nat) | fn (n : Nat) | ty (n : String)
  | scr (ns : List Int)
  | ptup (xs : List Val)
instance : Inhabited Val := ⟨.non⟩
/-- a mutable object; lK, lT: a dict that is walked -/
inductive Ob where
  | lst (xs : List Val)
  | dK (kvs : List (Key × Val))
  | dT (kvs : List (List Key × Val))
  | ins (c : Nat) (vs : List Val)
  | lK (kvs : List (Key × Val))
  | lT (kvs : List (List Key × Val))
  | dN (ks : List ((Int × Int) × Int))
  | dQ (ks : List (Int × (Int × Int)))
  | lQ (ks : List (Int × (Int × Int)))
abbrev HM := List Ob
/-- where classes, exceptions and defs stand -/
structure Glob where
  cls : Nat → Option Addr
  flds : Nat → List Str
  exc : Nat → Option Addr
  fn : Nat → Option Addr
  K : PySem.W.Frag
/-- the mutable objects' addresses by number; hid: lists that are just being made -/
structure Ad where
  ix : List Addr
  hid : List Addr := []
  lk : List Addr := []
def Ad.out (r : Ad) (a : Addr) : Prop := a ∉ r.ix ∧ a ∉ r.hid
/-- the script's list, wherever it stands -/
def ScrV (K : PySem.W.Frag) (r : Ad) (H : Hp) (a : Addr) (ns : List Int) : Prop := (Rd H a (.lst (ns.map V.int)) ∧ r.out a) ∨ ∀ H' : Hp, SqL K H' a (ns.map V.int)
theorem ScrV.sq {K : PySem.W.Frag} {r : Ad} {H : Hp} {a : Addr} {ns : List Int} (h : ScrV K r H a ns) : SqL K H a (ns.map V.int) := by
  rcases h with ⟨h, _⟩ | h
  · exact .inl h
  · exact h H
def Ad.push (r : Ad) (a : Addr) : Ad := { r with ix := r.ix ++ [a] }
mutual
inductive VR (G : Glob) (r : Ad) (H : Hp) : Val → V → Prop
  | non : VR G r H .non .non
  | bl (b : Bool) : VR G r H (.bl b) (.bl b)
  | int (i : Int) : VR G r H (.int i) (.int i)
  | str (x : Str) : VR G r H (.str x) (.str x)
  | tup {a : Addr} {vs : List V} {xs : List Val} : H a = some (.tup vs) → r.out a → VRs G r H xs vs → VR G r H (.tup xs) (.ref a)
  | lst {a : Addr} {vs : List V} {xs : List Val} : H a = some (.lst vs) → r.out a → VRs G r H xs vs → VR G r H (.lst xs) (.ref a)
  | ref {n : Nat} {a : Addr} : r.ix[n]? = some a → VR G r H (.ref n) (.ref a)
  | fn {n : Nat} {a : Addr} : G.fn n = some a → VR G r H (.fn n) (.ref a)
  | ty (n : String) : VR G r H (.ty n) (.ty n)
  | scr {a : Addr} {ns : List Int} : ScrV G.K r H a ns → VR G r H (.scr ns) (.ref a)
  | ptup {a : Addr} {o : Obj} {vs : List V} {xs : List Val} : H a = some (.frz o (.tup vs)) → o.dict = none → r.out a → VRs G r H xs vs → VR G r H (.ptup xs) (.ref a)
inductive VRs (G : Glob) (r : Ad) (H : Hp) : List Val → List V → Prop
  | nil : VRs G r H [] []
  | cons {x : Val} {xs : List Val} {v : V} {vs : List V} : VR G r H x v → VRs G r H xs vs → VRs G r H (x :: xs) (v :: vs)
end
/-- values under keys -/
def KR {κ : Type} (G : Glob) (r : Ad) (H : Hp) : List (κ × Val) → List (κ × V) → Prop := Paired fun p q => p.1 = q.1 ∧ VR G r H p.2 q.2
/-- keys ((a, b), c), each with True under it: what stands at a, by the keys' and their marks' addresses -/
def key3 (k : (Int × Int) × Int) : NestedKey := .tup [.tup [.num k.1.1, .num k.1.2], .num k.2]
abbrev Ent3 := ((Int × Int) × Int) × Addr × Addr
def DN (a : Addr) (xs : List Ent3) (h : Heap) : Prop := (a == sysModules) = false ∧ xs.length ≤ sizeLine ∧ (xs.map (·.1)).Nodup ∧
  ∃ (w : World) (o : Obj) (es : Array DictEntry) (ep : Nat), h.get? a = some o ∧ o.ExactDict ∧ o.data = .dict es ep ∧ es.toList = xs.map fun x => (⟨(key3 x.1).hash w, .ref x.2.1, .bool true⟩ : DictEntry)
/-- the keys' tuples stand -/
def Ky3 (r : Ad) (H : Hp) (x : Ent3) : Prop := H x.2.2 = some (.tup [.int x.1.1.1, .int x.1.1.2]) ∧ r.out x.2.2 ∧ H x.2.1 = some (.tup [.ref x.2.2, .int x.1.2]) ∧ r.out x.2.1
theorem Ky3.ex {r r' : Ad} {H H' : Hp} {x : Ent3} (hk : ∀ (a : Addr) (u : HO), H a = some u → r.out a → H' a = some u ∧ r'.out a) (z : Ky3 r H x) : Ky3 r' H' x :=
  ⟨(hk _ _ z.1 z.2.1).1, (hk _ _ z.1 z.2.1).2, (hk _ _ z.2.2.1 z.2.2.2).1, (hk _ _ z.2.2.1 z.2.2.2).2⟩
/-- keys (c, (a, b)), likewise -/
def keyQ (k : Int × (Int × Int)) : NestedKey := .tup [.num k.1, .tup [.num k.2.1, .num k.2.2]]
abbrev EntQ := (Int × (Int × Int)) × Addr × Addr
def DQ (a : Addr) (xs : List EntQ) (h : Heap) : Prop := (a == sysModules) = false ∧ xs.length ≤ sizeLine ∧ (xs.map (·.1)).Nodup ∧
  ∃ (w : World) (o : Obj) (es : Array DictEntry) (ep : Nat), h.get? a = some o ∧ o.ExactDict ∧ o.data = .dict es ep ∧ es.toList = xs.map fun x => (⟨(keyQ x.1).hash w, .ref x.2.1, .bool true⟩ : DictEntry)
def KyQ (r : Ad) (H : Hp) (x : EntQ) : Prop := H x.2.2 = some (.tup [.int x.1.2.1, .int x.1.2.2]) ∧ r.out x.2.2 ∧ H x.2.1 = some (.tup [.int x.1.1, .ref x.2.2]) ∧ r.out x.2.1
theorem KyQ.ex {r r' : Ad} {H H' : Hp} {x : EntQ} (hk : ∀ (a : Addr) (u : HO), H a = some u → r.out a → H' a = some u ∧ r'.out a) (z : KyQ r H x) : KyQ r' H' x :=
  ⟨(hk _ _ z.1 z.2.1).1, (hk _ _ z.1 z.2.1).2, (hk _ _ z.2.2.1 z.2.2.2).1, (hk _ _ z.2.2.1 z.2.2.2).2⟩
inductive ObR (G : Glob) (r : Ad) (H : Hp) (a : Addr) : Ob → Prop
  | lst {xs : List Val} {vs : List V} : H a = some (.lst vs) → VRs G r H xs vs → ObR G r H a (.lst xs)
  | dK {kvs : List (Key × Val)} {kv : List (Key × V)} : H a = some (.dK kv) → KR G r H kvs kv → ObR G r H a (.dK kvs)
  | dT {kvs : List (List Key × Val)} {kv : List (List Key × V)} : H a = some (.dT kv) → KR G r H kvs kv → ObR G r H a (.dT kvs)
  | ins {c : Nat} {C dx : Addr} {vs : List Val} {fv : List (Str × V)} : H a = some (.ins C dx fv) → G.cls c = some C → fv.map (·.1) = (G.flds c).take fv.length → VRs G r H vs (fv.map (·.2)) → ObR G r H a (.ins c vs)
  | lK {o : Obj} {kvs : List (Key × Val)} {kv : List (Key × V)} : H a = some (.frz o (.dK kv)) → KR G r H kvs kv → ObR G r H a (.lK kvs)
  | lT {o : Obj} {kvs : List (List Key × Val)} {kv : List (List Key × V)} : H a = some (.frz o (.dT kv)) → KR G r H kvs kv → ObR G r H a (.lT kvs)
  | dN {ks : List ((Int × Int) × Int)} {xs : List Ent3} : H a = some (.ext (DN a xs)) → ks = xs.map (·.1) → (∀ x ∈ xs, Ky3 r H x) → ObR G r H a (.dN ks)
  | dQ {ks : List (Int × (Int × Int))} {xs : List EntQ} : H a = some (.ext (DQ a xs)) → ks = xs.map (·.1) → (∀ x ∈ xs, KyQ r H x) → ObR G r H a (.dQ ks)
  | lQ {o : Obj} {ks : List (Int × (Int × Int))} {xs : List EntQ} : H a = some (.frz o (.ext (DQ a xs))) → ks = xs.map (·.1) → (∀ x ∈ xs, KyQ r H x) → ObR G r H a (.lQ ks)
def isLk : Ob → Bool
  | .lK _ => true
  | .lT _ => true
  | .lQ _ => true
  | _ => false
structure Rel (G : Glob) (r : Ad) (h : HM) (H : Hp) : Prop where
  nd : r.ix.Nodup
  len : r.ix.length = h.length
  hd : ∀ a ∈ r.hid, a ∉ r.ix ∧ ∃ vs, H a = some (.lst vs)
  ob : ∀ (n : Nat) (a : Addr) (o : Ob), r.ix[n]? = some a → h[n]? = some o → ObR G r H a o
  lk : ∀ a ∈ r.lk, a ∉ r.hid ∧ ∃ o u, H a = some (.frz o u)
  lo : ∀ (n : Nat) (a : Addr) (o : Ob), r.ix[n]? = some a → h[n]? = some o → isLk o = true → a ∈ r.lk
/-- what values lean on stays -/
structure Ex (r : Ad) (H : Hp) (r' : Ad) (H' : Hp) : Prop where
  pre : r.ix <+: r'.ix
  keep : ∀ (a : Addr) (u : HO), H a = some u → r.out a → H' a = some u ∧ r'.out a
/-- what stays: all that is not mutable -/
structure Ext (r : Ad) (H : Hp) (r' : Ad) (H' : Hp) : Prop extends Ex r H r' H' where
  hid : r'.hid = r.hid
  hk : ∀ a ∈ r.hid, H' a = H a
  lkk : r'.lk = r.lk
  lks : ∀ a ∈ r.lk, H' a = H a
abbrev Loc := List (Option Val)
def LR (G : Glob) (r : Ad) (H : Hp) (l : Loc) (s : St) : Prop := l.length = s.length ∧ ∀ (i : Nat) (v : Val), l[i]? = some (some v) → ∃ u, s[i]? = some (some u) ∧ VR G r H v u
section
variable {G : Glob} {r r' r2 : Ad} {H H' H2 : Hp} {h h' : HM}
theorem Ext.refl : Ext r H r H := ⟨⟨List.prefix_refl _, fun _ _ e n => ⟨e, n⟩⟩, rfl, fun _ _ => rfl, rfl, fun _ _ => rfl⟩
theorem Ex.trans (a : Ex r H r' H') (b : Ex r' H' r2 H2) : Ex r H r2 H2 := ⟨a.pre.trans b.pre, fun c u e n => let z := a.keep c u e n; b.keep c u z.1 z.2⟩
theorem Ext.trans (a : Ext r H r' H') (b : Ext r' H' r2 H2) : Ext r H r2 H2 := ⟨a.toEx.trans b.toEx, b.hid.trans a.hid, fun c m => (b.hk c (by rw [a.hid]; exact m)).trans (a.hk c m), b.lkk.trans a.lkk, fun c m => (b.lks c (by rw [a.lkk]; exact m)).trans (a.lks c m)⟩
theorem Ex.rd (e : Ex r H r' H') {a : Addr} {u : HO} (d : Rd H a u) (n : r.out a) : Rd H' a u ∧ r'.out a := by
  rcases d with d | ⟨o, d⟩
  · exact ⟨.inl (e.keep _ _ d n).1, (e.keep _ _ d n).2⟩
  · exact ⟨.inr ⟨o, (e.keep _ _ d n).1⟩, (e.keep _ _ d n).2⟩
theorem pre_get {r r' : List Addr} (p : r <+: r') {n : Nat} {a : Addr} (e : r[n]? = some a) : r'[n]? = some a := by
  obtain ⟨t, rfl⟩ := p
  have hn : n < r.length := (List.getElem?_eq_some_iff.mp e).1
  rw [List.getElem?_append_left hn]; exact e
mutual
theorem VR.ex (e : Ex r H r' H') : ∀ {x : Val} {v : V}, VR G r H x v → VR G r' H' x v
  | _, _, .non => .non
  | _, _, .bl b => .bl b
  | _, _, .int i => .int i
  | _, _, .str x => .str x
  | _, _, .tup d n q => .tup (e.keep _ _ d n).1 (e.keep _ _ d n).2 (VRs.ex e q)
  | _, _, .lst d n q => .lst (e.keep _ _ d n).1 (e.keep _ _ d n).2 (VRs.ex e q)
  | _, _, .ref q => .ref (pre_get e.pre q)
  | _, _, .fn q => .fn q
  | _, _, .ty n => .ty n
  | _, _, .ptup d z n q => .ptup (e.keep _ _ d n).1 z (e.keep _ _ d n).2 (VRs.ex e q)
  | _, _, .scr q => .scr (q.imp (fun z => e.rd z.1 z.2) fun z => z)
theorem VRs.ex (e : Ex r H r' H') : ∀ {xs : List Val} {vs : List V}, VRs G r H xs vs → VRs G r' H' xs vs
  | _, _, .nil => .nil
  | _, _, .cons q t => .cons (VR.ex e q) (VRs.ex e t)
end
theorem VR.ext (e : Ext r H r' H') {x : Val} {v : V} (q : VR G r H x v) : VR G r' H' x v := VR.ex e.toEx q
theorem VRs.ext (e : Ext r H r' H') {xs : List Val} {vs : List V} (q : VRs G r H xs vs) : VRs G r' H' xs vs := VRs.ex e.toEx q
theorem KR.ex {κ : Type} (e : Ex r H r' H') {x : List (κ × Val)} {y : List (κ × V)} (q : KR G r H x y) : KR G r' H' x y := Paired.mapP q fun _ _ z => ⟨z.1, z.2.ex e⟩
theorem LR.ex (e : Ex r H r' H') {l : Loc} {s : St} (q : LR G r H l s) : LR G r' H' l s := ⟨q.1, fun i v z => let ⟨u, a, b⟩ := q.2 i v z; ⟨u, a, b.ex e⟩⟩
theorem KR.ext {κ : Type} (e : Ext r H r' H') {x : List (κ × Val)} {y : List (κ × V)} (q : KR G r H x y) : KR G r' H' x y := Paired.mapP q fun _ _ z => ⟨z.1, z.2.ext e⟩
theorem LR.ext (e : Ext r H r' H') {l : Loc} {s : St} (q : LR G r H l s) : LR G r' H' l s := ⟨q.1, fun i v z => let ⟨u, a, b⟩ := q.2 i v z; ⟨u, a, b.ext e⟩⟩
theorem VRs.length {xs : List Val} {vs : List V} (q : VRs G r H xs vs) : xs.length = vs.length := by
  induction xs generalizing vs with
  | nil => cases q; rfl
  | cons x xs ih => cases q with | cons a b => simp [ih b]
theorem VRs.get {xs : List Val} {vs : List V} (q : VRs G r H xs vs) {i : Nat} {x : Val} (e : xs[i]? = some x) : ∃ v, vs[i]? = some v ∧ VR G r H x v := by
  induction xs generalizing vs i with
  | nil => simp at e
  | cons y ys ih =>
    cases q with
    | cons a b =>
      cases i with
      | zero => simp at e; subst e; exact ⟨_, rfl, a⟩
      | succ i => exact ih b (by simpa using e)
theorem VRs.append {xs ys : List Val} {vs ws : List V} (q : VRs G r H xs vs) (t : VRs G r H ys ws) : VRs G r H (xs ++ ys) (vs ++ ws) := by
  induction xs generalizing vs with
  | nil => cases q; exact t
  | cons x xs ih => cases q with | cons a b => exact .cons a (ih b)
theorem VRs.take {xs : List Val} {vs : List V} (q : VRs G r H xs vs) (n : Nat) : VRs G r H (xs.take n) (vs.take n) := by
  induction xs generalizing vs n with
  | nil => cases q; simp; exact .nil
  | cons x xs ih =>
    cases q with
    | cons a b =>
      cases n with
      | zero => exact .nil
      | succ n => exact .cons a (ih b n)
theorem VRs.drop {xs : List Val} {vs : List V} (q : VRs G r H xs vs) (n : Nat) : VRs G r H (xs.drop n) (vs.drop n) := by
  induction xs generalizing vs n with
  | nil => cases q; simp; exact .nil
  | cons x xs ih =>
    cases q with
    | cons a b =>
      cases n with
      | zero => exact .cons a b
      | succ n => exact ih b n
theorem VRs.set {xs : List Val} {vs : List V} (q : VRs G r H xs vs) (n : Nat) {x : Val} {v : V} (z : VR G r H x v) : VRs G r H (xs.set n x) (vs.set n v) := by
  induction xs generalizing vs n with
  | nil => cases q; exact .nil
  | cons y ys ih =>
    cases q with
    | cons a b =>
      cases n with
      | zero => exact .cons z b
      | succ n => exact .cons a (ih b n)
theorem VRs.eraseIdx {xs : List Val} {vs : List V} (q : VRs G r H xs vs) (n : Nat) : VRs G r H (xs.eraseIdx n) (vs.eraseIdx n) := by
  induction xs generalizing vs n with
  | nil => cases q; exact .nil
  | cons y ys ih =>
    cases q with
    | cons a b =>
      cases n with
      | zero => exact b
      | succ n => exact .cons a (ih b n)
theorem Rel.at_ (q : Rel G r h H) {n : Nat} {a : Addr} (e : r.ix[n]? = some a) : ∃ o, h[n]? = some o ∧ ObR G r H a o := by
  have hn : n < h.length := by rw [← q.len]; exact (List.getElem?_eq_some_iff.mp e).1
  exact ⟨h[n], by simp [hn], q.ob n a _ e (by simp [hn])⟩
theorem Rel.adr (q : Rel G r h H) {n : Nat} {o : Ob} (e : h[n]? = some o) : ∃ a, r.ix[n]? = some a ∧ ObR G r H a o := by
  have hn : n < r.ix.length := by rw [q.len]; exact (List.getElem?_eq_some_iff.mp e).1
  exact ⟨r.ix[n], by simp [hn], q.ob n _ o (by simp [hn]) e⟩
theorem ObR.some {a : Addr} {o : Ob} (q : ObR G r H a o) : ∃ u, H a = some u := by
  cases q <;> exact ⟨_, by assumption⟩
theorem Rel.there (q : Rel G r h H) {a : Addr} (m : a ∈ r.ix) : ∃ u, H a = some u := by
  obtain ⟨n, hn, e⟩ := List.mem_iff_getElem.mp m
  obtain ⟨o, _, ob⟩ := q.at_ (n := n) (a := a) (by simp [hn, e])
  exact ob.some
theorem Rel.hid (q : Rel G r h H) (a : Addr) (m : a ∈ r.hid) : a ∉ r.ix ∧ H a ≠ none := ⟨(q.hd a m).1, fun e => by
  obtain ⟨vs, z⟩ := (q.hd a m).2
  rw [e] at z; cases z⟩
theorem Rel.new (q : Rel G r h H) {p : Addr} (e : H p = none) : r.out p := ⟨(fun m => by
  obtain ⟨u, z⟩ := q.there m
  rw [e] at z
  cases z), fun m => (q.hid p m).2 e⟩
theorem Rel.lk_there (q : Rel G r h H) {a : Addr} (m : a ∈ r.lk) : H a ≠ none := by
  obtain ⟨_, o, u, e⟩ := q.lk a m
  rw [e]; simp
theorem Rel.lk_upd (q : Rel G r h H) {p : Addr} {o : HO} (e : ∀ o u, H p ≠ some (.frz o u)) : ∀ a ∈ r.lk, a ∉ r.hid ∧ ∃ o' u, upd H p o a = some (.frz o' u) := fun a m => by
  obtain ⟨n, o', u, z⟩ := q.lk a m
  refine ⟨n, o', u, ?_⟩
  have hne : a ≠ p := fun x => e o' u (by rw [← x]; exact z)
  rw [upd_ne hne]
  exact z
theorem nofrz_none {p : Addr} (e : H p = none) : ∀ o u, H p ≠ some (.frz o u) := fun o u z => by rw [e] at z; cases z
theorem ext_new (q : Rel G r h H) {p : Addr} {o : HO} (e : H p = none) : Ext r H r (upd H p o) := ⟨⟨List.prefix_refl _, fun a u z n => ⟨by rw [upd_ne (ne_of_none z e)]; exact z, n⟩⟩, rfl, fun a m => upd_ne fun z => (q.hid a m).2 (z ▸ e), rfl, fun a m => upd_ne fun z => (q.lk_there m) (z ▸ e)⟩
theorem ObR.ex {a : Addr} {o : Ob} (q : ObR G r H a o) (e : Ex r H r' H') (k : H' a = H a) : ObR G r' H' a o := by
  cases q with
  | lst h1 h2 => exact .lst (k.trans h1) (h2.ex e)
  | dK h1 h2 => exact .dK (k.trans h1) (h2.ex e)
  | dT h1 h2 => exact .dT (k.trans h1) (h2.ex e)
  | ins h1 h2 h3 h4 => exact .ins (k.trans h1) h2 h3 (h4.ex e)
  | lK h1 h2 => exact .lK (k.trans h1) (h2.ex e)
  | lT h1 h2 => exact .lT (k.trans h1) (h2.ex e)
  | dN h1 h2 h3 => exact .dN (k.trans h1) h2 fun x hx => (h3 x hx).ex e.keep
  | dQ h1 h2 h3 => exact .dQ (k.trans h1) h2 fun x hx => (h3 x hx).ex e.keep
  | lQ h1 h2 h3 => exact .lQ (k.trans h1) h2 fun x hx => (h3 x hx).ex e.keep
theorem ObR.ext {a : Addr} {o : Ob} (q : ObR G r H a o) (e : Ext r H r' H') (k : H' a = H a) : ObR G r' H' a o := q.ex e.toEx k
/-- a new thing that is no mutable object -/
theorem Rel.laid (q : Rel G r h H) {p : Addr} {o : HO} (e : H p = none) : Rel G r h (upd H p o) := ⟨q.nd, q.len, fun a m => ⟨(q.hid a m).1, by
    have hne : a ≠ p := fun z => (q.hid a m).2 (by rw [z]; exact e)
    rw [upd_ne hne]; exact (q.hd a m).2⟩, fun n a u h1 h2 =>
  (q.ob n a u h1 h2).ext (ext_new q e) (by
    have m : a ∈ r.ix := List.mem_of_getElem? h1
    rw [upd_ne]
    exact fun z => (q.new e).1 (z ▸ m)), q.lk_upd (nofrz_none e), q.lo⟩
/-- a new mutable object -/
theorem ext_alloc (q : Rel G r h H) {p : Addr} {o : HO} (e : H p = none) : Ext r H (r.push p) (upd H p o) := ⟨⟨List.prefix_append _ _, fun a u z n => ⟨by rw [upd_ne (ne_of_none z e)]; exact z, by
  refine ⟨?_, n.2⟩
  simp only [Ad.push, List.mem_append, List.mem_singleton, not_or]
  exact ⟨n.1, ne_of_none z e⟩⟩⟩, rfl, fun a m => upd_ne fun z => (q.hid a m).2 (z ▸ e), rfl, fun a m => upd_ne fun z => (q.lk_there m) (z ▸ e)⟩
theorem Rel.alloc (q : Rel G r h H) {p : Addr} {o : HO} {u : Ob} (e : H p = none) (z : ObR G (r.push p) (upd H p o) p u) (hu : isLk u = false := by rfl) : Rel G (r.push p) (h ++ [u]) (upd H p o) := by
  refine ⟨?_, by simp [Ad.push, q.len], fun a m => ?_, fun n a w h1 h2 => ?_, q.lk_upd (nofrz_none e), fun n a w h1 h2 hw => ?_⟩
  · simp only [Ad.push]
    rw [List.nodup_append]
    refine ⟨q.nd, by simp, fun a ha b hb => ?_⟩
    simp at hb
    subst hb
    exact fun z => (q.new e).1 (z ▸ ha)
  · have hne : a ≠ p := fun z => (q.hid a m).2 (z ▸ e)
    refine ⟨?_, by rw [upd_ne hne]; exact (q.hd a m).2⟩
    simp only [Ad.push, List.mem_append, List.mem_singleton, not_or]
    exact ⟨(q.hid a m).1, hne⟩
  · have h1 : (r.ix ++ [p])[n]? = .some a := h1
    by_cases hn : n < r.ix.length
    · rw [List.getElem?_append_left hn] at h1
      rw [List.getElem?_append_left (by rw [← q.len]; exact hn)] at h2
      refine (q.ob n a w h1 h2).ext (ext_alloc q e) ?_
      have m : a ∈ r.ix := List.mem_of_getElem? h1
      rw [upd_ne]
      exact fun z => (q.new e).1 (z ▸ m)
    · have hn' : n = r.ix.length := by
        have := (List.getElem?_eq_some_iff.mp h1).1
        simp at this
        omega
      subst hn'
      rw [List.getElem?_append_right (Nat.le_refl _)] at h1
      rw [q.len, List.getElem?_append_right (Nat.le_refl _)] at h2
      simp at h1 h2
      subst h1 h2
      exact z
  · have h1 : (r.ix ++ [p])[n]? = .some a := h1
    by_cases hn : n < r.ix.length
    · rw [List.getElem?_append_left hn] at h1
      rw [List.getElem?_append_left (by rw [← q.len]; exact hn)] at h2
      exact q.lo n a w h1 h2 hw
    · have hn' : n = r.ix.length := by
        have := (List.getElem?_eq_some_iff.mp h1).1
        simp at this
        omega
      subst hn'
      rw [q.len, List.getElem?_append_right (Nat.le_refl _)] at h2
      simp at h2
      subst h2
      rw [hu] at hw; cases hw
theorem nodup_ixA {N : List Addr} (hN : N.Nodup) {i j : Nat} {x : Addr} (a : N[i]? = some x) (b : N[j]? = some x) : i = j := by
  obtain ⟨h1, e1⟩ := List.getElem?_eq_some_iff.mp a
  obtain ⟨h2, e2⟩ := List.getElem?_eq_some_iff.mp b
  exact (List.getElem_inj hN).mp (e1.trans e2.symm)
/-- a mutable object is written -/
theorem ext_write (q : Rel G r h H) {n : Nat} {a : Addr} {o : HO} (hn : r.ix[n]? = some a) (nf : ∀ o u, H a ≠ some (.frz o u)) : Ext r H r (upd H a o) := ⟨⟨List.prefix_refl _, fun b u z m => ⟨by
  have : b ≠ a := fun e => m.1 (e ▸ List.mem_of_getElem? hn)
  rw [upd_ne this]; exact z, m⟩⟩, rfl, fun b m => upd_ne fun e => (q.hid b m).1 (e ▸ List.mem_of_getElem? hn), rfl, fun b m => upd_ne fun e => (by
    obtain ⟨_, o', u, z⟩ := q.lk b m
    exact nf o' u (e ▸ z))⟩
theorem Rel.write (q : Rel G r h H) {n : Nat} {a : Addr} {o : HO} {u : Ob} (hn : r.ix[n]? = some a) (nf : ∀ o u, H a ≠ some (.frz o u)) (z : ObR G r (upd H a o) a u) (hu : isLk u = true → a ∈ r.lk := by intro z; cases z) : Rel G r (h.set n u) (upd H a o) := by
  refine ⟨q.nd, by simp [q.len], fun b m => ⟨(q.hid b m).1, by
    have hne : b ≠ a := fun e => (q.hid b m).1 (by rw [e]; exact List.mem_of_getElem? hn)
    rw [upd_ne hne]; exact (q.hd b m).2⟩, fun m b w h1 h2 => ?_, q.lk_upd nf, fun m b w h1 h2 hw => ?_⟩
  rotate_left
  · by_cases e : m = n
    · subst e
      rw [hn] at h1; cases h1
      have hl : m < h.length := by rw [← q.len]; exact (List.getElem?_eq_some_iff.mp hn).1
      rw [List.getElem?_set_self hl] at h2
      cases h2
      exact hu hw
    · rw [List.getElem?_set_ne (Ne.symm e)] at h2
      exact q.lo m b w h1 h2 hw
  by_cases e : m = n
  · subst e
    rw [hn] at h1; cases h1
    have hl : m < h.length := by rw [← q.len]; exact (List.getElem?_eq_some_iff.mp hn).1
    rw [List.getElem?_set_self hl] at h2
    cases h2
    exact z
  · rw [List.getElem?_set_ne (Ne.symm e)] at h2
    refine (q.ob m b w h1 h2).ext (ext_write q hn nf) ?_
    rw [upd_ne]
    intro z2
    subst z2
    exact e (nodup_ixA q.nd h1 hn)
def Ad.hide (r : Ad) (D : Addr) : Ad := { r with hid := D :: r.hid }
theorem ex_hide {D : Addr} {o : HO} (e : H D = none) : Ex r H (r.hide D) (upd H D o) := ⟨List.prefix_refl _, fun a u z n => by
  have hne := ne_of_none z e
  refine ⟨by rw [upd_ne hne]; exact z, n.1, ?_⟩
  simp only [Ad.hide, List.mem_cons, not_or]
  exact ⟨hne, n.2⟩⟩
theorem Rel.hide (q : Rel G r h H) {D : Addr} {ys : List V} (e : H D = none) : Rel G (r.hide D) h (upd H D (.lst ys)) := by
  refine ⟨q.nd, q.len, fun a m => ?_, fun n a u h1 h2 => (q.ob n a u h1 h2).ex (ex_hide e) ?_, fun a m => ?_, q.lo⟩
  · simp only [Ad.hide, List.mem_cons] at m
    by_cases ha : a = D
    · subst ha
      exact ⟨(q.new e).1, ys, upd_same⟩
    · have m' : a ∈ r.hid := m.resolve_left ha
      exact ⟨(q.hid a m').1, by rw [upd_ne ha]; exact (q.hd a m').2⟩
  · have m : a ∈ r.ix := List.mem_of_getElem? h1
    rw [upd_ne]
    exact fun z => (q.new e).1 (z ▸ m)
  · have hl := q.lk_upd (o := .lst ys) (nofrz_none e) a m
    refine ⟨fun z => ?_, hl.2⟩
    simp only [Ad.hide, List.mem_cons] at z
    rcases z with z | z
    · exact q.lk_there m (z ▸ e)
    · exact hl.1 z
/-- the hidden list grows -/
theorem ex_grow {D : Addr} {o : HO} (m : D ∈ r.hid) : Ex r H r (upd H D o) := ⟨List.prefix_refl _, fun a u z n => by
  have hne : a ≠ D := fun e => n.2 (e ▸ m)
  exact ⟨by rw [upd_ne hne]; exact z, n⟩⟩
theorem Rel.grow (q : Rel G r h H) {D : Addr} {ys : List V} (m : D ∈ r.hid) : Rel G r h (upd H D (.lst ys)) := by
  refine ⟨q.nd, q.len, fun a m' => ⟨(q.hid a m').1, ?_⟩, fun n a u h1 h2 => (q.ob n a u h1 h2).ex (ex_grow m) ?_, fun a m' => ?_, q.lo⟩
  · by_cases ha : a = D
    · subst ha; exact ⟨ys, upd_same⟩
    · rw [upd_ne ha]; exact (q.hd a m').2
  · have m2 : a ∈ r.ix := List.mem_of_getElem? h1
    rw [upd_ne]
    intro z
    subst z
    exact (q.hid _ m).1 m2
  · obtain ⟨n, o', u, z⟩ := q.lk a m'
    refine ⟨n, o', u, ?_⟩
    have hne : a ≠ D := fun x => n (by rw [x]; exact m)
    rw [upd_ne hne]
    exact z
def Ad.show_ (r : Ad) (hs : List Addr) : Ad := { r with hid := hs }
theorem ex_show {D : Addr} {hs : List Addr} (e : r.hid = D :: hs) : Ex r H (r.show_ hs) H := ⟨List.prefix_refl _, fun a u z n => ⟨z, n.1, fun m => n.2 (by rw [e]; exact List.mem_cons_of_mem _ m)⟩⟩
theorem Rel.show_ (q : Rel G r h H) {D : Addr} {hs : List Addr} (e : r.hid = D :: hs) : Rel G (r.show_ hs) h H :=
  ⟨q.nd, q.len, fun a m => q.hd a (by rw [e]; exact List.mem_cons_of_mem _ m), fun n a u h1 h2 => (q.ob n a u h1 h2).ex (ex_show e) rfl, fun a m => ⟨fun z => (q.lk a m).1 (by rw [e]; exact List.mem_cons_of_mem _ z), (q.lk a m).2⟩, q.lo⟩
/-- from ahead of the making to behind it -/
theorem ext_made {D : Addr} {o : HO} (q : Rel G r h H) (e : H D = none) (x : Ex (r.hide D) (upd H D o) r2 H2) (hh : r2.hid = D :: r.hid) (hk : ∀ a ∈ r.hid, H2 a = H a) (lkk : r2.lk = r.lk) (lks : ∀ a ∈ r.lk, H2 a = H a) : Ext r H (r2.show_ r.hid) H2 :=
  ⟨((ex_hide e).trans x).trans (ex_show hh), rfl, hk, lkk, lks⟩
end
end MM
namespace MM
open PySem L2
inductive Res (α : Type) where
  | ok (a : α) (h : HM) | exc (c : Nat) (h : HM) | bad
inductive SRes where
  | nx (l : Loc) (h : HM) | rt (v : Val) (h : HM) | exc (c : Nat) (l : Loc) (h : HM) | bad
def Res.bind {α β : Type} (r : Res α) (k : α → HM → Res β) : Res β := match r with
  | .ok a h => k a h | .exc c h => .exc c h | .bad => .bad
@[simp] theorem Res.bind_ok {α β : Type} (a : α) (h : HM) (k : α → HM → Res β) : (Res.ok a h).bind k = k a h := (rfl)
@[simp] theorem Res.bind_exc {α β : Type} (c : Nat) (h : HM) (k : α → HM → Res β) : (Res.exc c h : Res α).bind k = .exc c h := (rfl)
@[simp] theorem Res.bind_bad {α β : Type} (k : α → HM → Res β) : (Res.bad : Res α).bind k = .bad := (rfl)
abbrev EM := Loc → HM → Res Val
abbrev TM := Loc → HM → Res Bool
abbrev AM := Loc → HM → Res (List Val)
abbrev SM := Loc → HM → SRes
abbrev FM := List Val → HM → Res Val
/-- an expression's result, as a statement goes on with it -/
def Res.thn (r : Res α) (l : Loc) (k : α → HM → SRes) : SRes := match r with
  | .ok a h => k a h | .exc c h => .exc c l h | .bad => .bad
@[simp] theorem Res.thn_ok {α : Type} (a : α) (h : HM) (l : Loc) (k : α → HM → SRes) : (Res.ok a h).thn l k = k a h := (rfl)
@[simp] theorem Res.thn_exc {α : Type} (c : Nat) (h : HM) (l : Loc) (k : α → HM → SRes) : (Res.exc c h : Res α).thn l k = .exc c l h := (rfl)
@[simp] theorem Res.thn_bad {α : Type} (l : Loc) (k : α → HM → SRes) : (Res.bad : Res α).thn l k = .bad := (rfl)
section
variable (G : Glob) (W : WX) (r : Ad) (H : Hp) (s : St)
def Post {α β : Type} (R : Ad → Hp → α → β → Prop) (Q : β → Hp → Prop) : Res α → Prop
  | .ok a h' => ∀ r' H' b, Ext r H r' H' → Rel G r' h' H' → R r' H' a b → Q b H'
  | .exc c h' => ∀ r' H' C, Ext r H r' H' → Rel G r' h' H' → G.exc c = some C → W (.ref C) none s H'
  | .bad => False
def PostS (D : Ends) : SRes → Prop
  | .nx l h' => ∀ r' H' s', Ext r H r' H' → Rel G r' h' H' → LR G r' H' l s' → D.nx s' H'
  | .rt v h' => ∀ r' H' u, Ext r H r' H' → Rel G r' h' H' → VR G r' H' v u → D.rt u H'
  | .exc c l h' => ∀ r' H' s' C, Ext r H r' H' → Rel G r' h' H' → LR G r' H' l s' → G.exc c = some C → W (.ref C) none s' H'
  | .bad => False
end
def REq {α : Type} : Ad → Hp → α → α → Prop := fun _ _ a b => b = a
section
variable (G : Glob) (W : WX)
def tE (m : EM) : TE := fun s H Q => ∃ r h l, Rel G r h H ∧ LR G r H l s ∧ Post G W r H s (VR G) Q (m l h)
def tT (m : TM) : TT := fun s H Q => ∃ r h l, Rel G r h H ∧ LR G r H l s ∧ Post G W r H s REq Q (m l h)
def tA (m : AM) : TA := fun s H Q => ∃ r h l, Rel G r h H ∧ LR G r H l s ∧ Post G W r H s (VRs G) Q (m l h)
def tS (m : SM) : TS := fun D s H => ∃ r h l, Rel G r h H ∧ LR G r H l s ∧ PostS G W r H D (m l h)
end
section
variable (X : Cx) (G : Glob) (W : WX)
abbrev ME (e : Expr) (m : EM) : Prop := PE X e (tE G W m)
abbrev MT (e : Expr) (m : TM) : Prop := PT X e (tT G W m)
abbrev MW (e : Expr) (m : TM) : Prop := PW X e (tT G W m)
abbrev MA (es : List Expr) (m : AM) : Prop := PA X es (tA G W m)
abbrev MS (st : Stmt) (m : SM) : Prop := PS X st (tS G W m)
abbrev MSs (st : List Stmt) (m : SM) : Prop := PSs X st (tS G W m)
end
section
variable {X : Cx} {G : Glob} {W : WX} {r r1 : Ad} {H H1 : Hp} {h : HM} {l : Loc} {s : St}
theorem Post.shift {α β : Type} {R : Ad → Hp → α → β → Prop} {Q : β → Hp → Prop} {x : Res α} (e : Ext r H r1 H1) (p : Post G W r H s R Q x) : Post G W r1 H1 s R Q x := by
  cases x with
  | ok a h' => exact fun r' H' b e' => p r' H' b (e.trans e')
  | exc c h' => exact fun r' H' C e' => p r' H' C (e.trans e')
  | bad => exact p
theorem PostS.shift {D : Ends} {x : SRes} (e : Ext r H r1 H1) (p : PostS G W r H D x) : PostS G W r1 H1 D x := by
  cases x with
  | nx l h' => exact fun r' H' s' e' => p r' H' s' (e.trans e')
  | rt v h' => exact fun r' H' b e' => p r' H' b (e.trans e')
  | exc c l h' => exact fun r' H' s' C e' => p r' H' s' C (e.trans e')
  | bad => exact p
/-- what is known between two parts -/
def Mid (G : Glob) (W : WX) (r : Ad) (H : Hp) {α β : Type} (R : Ad → Hp → α → β → Prop) (P : Ad → Hp → α → HM → Prop) : β → Hp → Prop :=
  fun b H1 => ∃ r1 h1 a, Ext r H r1 H1 ∧ Rel G r1 h1 H1 ∧ R r1 H1 a b ∧ P r1 H1 a h1
theorem Post.bind {α β γ δ : Type} {R1 : Ad → Hp → α → β → Prop} {R2 : Ad → Hp → γ → δ → Prop} {Q : δ → Hp → Prop} {x : Res α} {k : α → HM → Res γ}
    (p : Post G W r H s R2 Q (x.bind k)) : Post G W r H s R1 (Mid G W r H R1 fun r1 H1 a h1 => Post G W r1 H1 s R2 Q (k a h1)) x := by
  cases x with
  | ok a h' => exact fun r' H' b e q z => ⟨r', h', a, e, q, z, Post.shift e p⟩
  | exc c h' => exact p
  | bad => exact p
theorem Post.thn {α β : Type} {R1 : Ad → Hp → α → β → Prop} {D : Ends} {x : Res α} {k : α → HM → SRes} (hl : LR G r H l s)
    (p : PostS G W r H D (x.thn l k)) : Post G W r H s R1 (Mid G W r H R1 fun r1 H1 a h1 => PostS G W r1 H1 D (k a h1)) x := by
  cases x with
  | ok a h' => exact fun r' H' b e q z => ⟨r', h', a, e, q, z, PostS.shift e p⟩
  | exc c h' => exact fun r' H' C e q z => p r' H' s C e q (hl.ext e) z
  | bad => exact p
theorem Post.imp {α β : Type} {R : Ad → Hp → α → β → Prop} {Q Q' : β → Hp → Prop} {x : Res α} (p : Post G W r H s R Q x) (i : ∀ b H', Q b H' → Q' b H') : Post G W r H s R Q' x := by
  cases x with
  | ok a h' => exact fun r' H' b e q z => i _ _ (p r' H' b e q z)
  | exc c h' => exact p
  | bad => exact p
/-- a value as it stands -/
theorem Post.here {α β : Type} {R : Ad → Hp → α → β → Prop} {Q : β → Hp → Prop} {a : α} {b : β} (q : Rel G r h H) (z : R r H a b) (p : Post G W r H s R Q (.ok a h)) : Q b H := p r H b Ext.refl q z
def eVar (i : Nat) : EM := fun l h => match l[i]? with
  | some (some v) => .ok v h
  | _ => .bad
def eC (v : Val) : EM := fun _ h => .ok v h
theorem me_of {e : Expr} {t : TE} {m : EM} (he : PE X e t) (hi : ∀ r h l s H Q, Rel G r h H → LR G r H l s → Post G W r H s (VR G) Q (m l h) → t s H Q) : ME X G W e m :=
  ⟨fun pins s σ H Q I ⟨r, h, l, q, hl, p⟩ => he.run pins s σ H Q I (hi r h l σ H Q q hl p)⟩
theorem me_var {i : Nat} {x : Str} {pos : Pos} (hN : X.N[i]? = some x := by rfl) (hv : Vis X.env.scope x := by first | exact Or.inl rfl | exact Or.inr (Or.inl rfl) | exact Or.inr (Or.inr rfl)) (hd : (x == ("__debug__" : Str)) = false := by decide)
    (hcd : (x == ("__classdict__" : Str)) = false := by decide) : ME X G W (.Name x pos) (eVar i) := me_of (pe_var hN hv hd hcd) fun r h l s H Q q hl p => by
  unfold eVar at p
  split at p
  · rename_i v e
    obtain ⟨u, a, b⟩ := hl.2 i v e
    exact ⟨u, a, Post.here q b p⟩
  · exact p.elim
theorem me_int {i j pos} : ME X G W (.Constant (.int i) j pos) (eC (.int i)) := me_of pe_int fun r h l s H Q q hl p => Post.here q (.int i) p
theorem me_bl {i j pos} : ME X G W (.Constant (.bool i) j pos) (eC (.bl i)) := me_of pe_bl fun r h l s H Q q hl p => Post.here q (.bl i) p
theorem me_non {j pos} : ME X G W (.Constant .none j pos) (eC .non) := me_of pe_non fun r h l s H Q q hl p => Post.here q .non p
theorem me_str {x j pos} : ME X G W (.Constant (.str x) j pos) (eC (.str x)) := me_of pe_str fun r h l s H Q q hl p => Post.here q (.str x) p
/-- a text of the module -/
theorem me_gstr {x z : Str} {t : Tok} {pos : Pos} (hg : Gl X x) (hm : X.mg x = some (.str z t)) (hd : (x == ("__debug__" : Str)) = false := by decide) : ME X G W (.Name x pos) (eC (.str z)) :=
  me_of (pe_glob (v := .str z) hg hm ⟨t, rfl⟩ hd) fun r h l s H Q q hl p => Post.here q (.str z) p
/-- an operation on two values -/
abbrev VOp := Val → Val → HM → Res Val
def OpM (X : Cx) (G : Glob) (f : Value → Value → Sem Value) (g : VOp) : Prop :=
  ∀ (W : WX) (pins : List (Addr × Obj)) (s : Shared) (σ : St) (H : Hp) (r : Ad) (h : HM) (a b : Val) (x y : V) (v u : Value) (Q : VK), Inv X pins σ H s → Rel G r h H → VR G r H a x → VR G r H b y → RelV x v → RelV y u →
    Post G W r H σ (VR G) Q (g a b h) → wpAny (model X.prog X.w) X.A (f v u) (EP X pins σ Q) X.xe s
def e2 (g : VOp) (a b : EM) : EM := fun l h => (a l h).bind fun x h1 => (b l h1).bind fun y h2 => g x y h2
theorem OpM.of {f : Value → Value → Sem Value} {t : R2} {g : VOp} (o : OpR X f t) (i : ∀ W r h H s a b x y Q, Rel G r h H → VR G r H a x → VR G r H b y → Post G W r H s (VR G) Q (g a b h) → t x y H Q) : OpM X G f g :=
  fun W pins s σ H r h a b x y v u Q I q za zb rx ry p => o pins s σ H x y v u Q I rx ry (i W r h H σ a b x y Q q za zb p)
variable {a b c : Expr} {ma mb mc : EM} {pos : Pos}
/-- what stands behind both parts -/
theorem both (ha : ME X G W a ma) (hb : ME X G W b mb) {pins : List (Addr × Obj)} {s : Shared} {σ : St} {H : Hp} {r : Ad} {h : HM} {l : Loc} {γ δ : Type} {R2 : Ad → Hp → γ → δ → Prop} {Q : δ → Hp → Prop} {k : Val → Val → HM → Res γ}
    (I : Inv X pins σ H s) (q : Rel G r h H) (hl : LR G r H l σ) (p : Post G W r H σ R2 Q ((ma l h).bind fun x h1 => (mb l h1).bind fun y h2 => k x y h2))
    {α : Type} {QQ : α → Shared → Prop} {f : Value → Value → Sem α}
    (hf : ∀ v u s2 x y H2 r2 h2 va vb, Inv X pins σ H2 s2 → Ext r H r2 H2 → Rel G r2 h2 H2 → VR G r2 H2 va x → VR G r2 H2 vb y → RelV x v → RelV y u → Post G W r2 H2 σ R2 Q (k va vb h2) → wpAny (model X.prog X.w) X.A (f v u) QQ X.xe s2) :
    wpAny (model X.prog X.w) X.A (eval a X.env) (fun v s₁ => wpAny (model X.prog X.w) X.A (eval b X.env) (fun u s₂ => wpAny (model X.prog X.w) X.A (f v u) QQ X.xe s₂) X.xe s₁) X.xe s := by
  refine thn (ha.run pins s σ H _ I ⟨r, h, l, q, hl, Post.bind p⟩) fun v s1 ⟨x, H1, I1, r1', ⟨r1, h1, va, e1, q1, z1, p1⟩⟩ => ?_
  refine thn (hb.run pins s1 σ H1 _ I1 ⟨r1, h1, l, q1, hl.ext e1, Post.bind p1⟩) fun u s2 ⟨y, H2, I2, r2', ⟨r2, h2, vb, e2, q2, z2, p2⟩⟩ => ?_
  exact hf v u s2 x y H2 r2 h2 va vb I2 (e1.trans e2) q2 (z1.ext e2) z2 r1' r2' p2
theorem me_op {op : Operator} {g : VOp} (o : OpM X G (binaryOp op) g) (ha : ME X G W a ma) (hb : ME X G W b mb) : ME X G W (.BinOp a op b pos) (e2 g ma mb) :=
  ⟨fun pins s σ H Q I ⟨r, h, l, q, hl, p⟩ => wpAny_BinOp (both ha hb I q hl p fun v u s2 x y H2 r2 h2 va vb I2 e q2 za zb rx ry p2 => o W pins s2 σ H2 r2 h2 va vb x y v u Q I2 q2 za zb rx ry p2)⟩
theorem me_cmp {op : CmpOp} {g : VOp} (o : OpM X G (compareOp op) g) (ha : ME X G W a ma) (hb : ME X G W b mb) (hm : behindInMarks op b = false) : ME X G W (.Compare a [op] [b] pos) (e2 g ma mb) :=
  ⟨fun pins s σ H Q I ⟨r, h, l, q, hl, p⟩ => wpAny_Compare1 (both ha hb I q hl p fun v u s2 x y H2 r2 h2 va vb I2 e q2 za zb rx ry p2 => o W pins s2 σ H2 r2 h2 va vb x y v u Q I2 q2 za zb rx ry p2) hm⟩
/-- a value that must be a truth -/
def toB (v : Val) (h : HM) : Res Bool := match v with
  | .bl b => .ok b h
  | _ => .bad
def tOf (m : EM) : TM := fun l h => (m l h).bind toB
theorem post_toB {Q : Bool → Hp → Prop} {v : Val} {x : V} (q : Rel G r h H) (z : VR G r H v x) (p : Post G W r H s REq Q (toB v h)) : ∃ k, x = .bl k ∧ Q k H := by
  cases z with
  | bl k => exact ⟨k, rfl, Post.here (R := REq) q rfl p⟩
  | _ => exact p.elim
/-- a comparison as a test -/
theorem mt_cmp {op : CmpOp} {g : VOp} (o : OpM X G (compareOp op) g) (ha : ME X G W a ma) (hb : ME X G W b mb) (hm : behindInMarks op b = false) : MT X G W (.Compare a [op] [b] pos) (tOf (e2 g ma mb)) := by
  refine ⟨fun pins s σ H Q I ⟨r, h, l, q, hl, p⟩ => ?_⟩
  have p' : Post G W r H σ REq Q ((ma l h).bind fun x h1 => (mb l h1).bind fun y h2 => (g x y h2).bind toB) := by
    unfold tOf e2 at p
    revert p
    cases ma l h with
    | ok x h1 => intro p; simp only [Res.bind_ok] at p ⊢; revert p; cases mb l h1 <;> exact fun p => p
    | exc c h1 => exact fun p => p
    | bad => exact fun p => p
  refine wpAny_isTrue_Compare1 (both ha hb I q hl p' fun v u s2 x y H2 r2 h2 va vb I2 e q2 za zb rx ry p2 => thn (o W pins s2 σ H2 r2 h2 va vb x y v u _ I2 q2 za zb rx ry (Post.bind p2)) fun c s3 ⟨z, H3, I3, r3, ⟨r4, h4, w4, e4, q4, z4, p4⟩⟩ => ?_) hm
  obtain ⟨k, rfl, qq⟩ := post_toB q4 z4 p4
  cases r3
  exact wpAny_truthy_bool ⟨H3, I3, qq⟩
/-- a value's truth -/
def truV (v : Val) (h : HM) : Res Bool := match v with
  | .non => .ok false h
  | .bl b => .ok b h
  | .int i => .ok (i != 0) h
  | .str x => if x.length ≤ sizeLine then .ok ((x.length : Int) != 0) h else .bad
  | .tup xs => .ok (!xs.isEmpty) h
  | .ptup xs => .ok (!xs.isEmpty) h
  | .lst xs => .ok (!xs.isEmpty) h
  | .ref n => match h[n]? with
    | some (.lst xs) => .ok (!xs.isEmpty) h
    | some (.dK kvs) => .ok (!kvs.isEmpty) h
    | _ => .bad
  | _ => .bad
def tTru (m : EM) : TM := fun l h => (m l h).bind truV
theorem VRs.isEmpty {xs : List Val} {vs : List V} (q : VRs G r H xs vs) : vs.isEmpty = xs.isEmpty := by cases q <;> rfl
theorem post_tru {K : PySem.W.Frag} {Q : Bool → Hp → Prop} {v : Val} {x : V} (q : Rel G r h H) (z : VR G r H v x) (p : Post G W r H s REq Q (truV v h)) : ∃ k, TruV K x H k ∧ Q k H := by
  cases z with
  | non => exact ⟨_, rfl, Post.here (R := REq) q rfl p⟩
  | bl k => exact ⟨_, rfl, Post.here (R := REq) q rfl p⟩
  | int i => exact ⟨_, rfl, Post.here (R := REq) q rfl p⟩
  | str x =>
    unfold truV at p
    simp only at p
    split at p
    · rename_i hz; exact ⟨_, ⟨hz, rfl⟩, Post.here (R := REq) q rfl p⟩
    · exact p.elim
  | tup d n t => exact ⟨_, .inr (.inl ⟨_, .inl (.inl d), rfl⟩), by rw [t.isEmpty]; exact Post.here (R := REq) q rfl p⟩
  | ptup d dn n t => exact ⟨_, .inr (.inl ⟨_, .inl (.inr ⟨_, d⟩), rfl⟩), by rw [t.isEmpty]; exact Post.here (R := REq) q rfl p⟩
  | lst d n t => exact ⟨_, .inl ⟨_, .inl (.inl d), rfl⟩, by rw [t.isEmpty]; exact Post.here (R := REq) q rfl p⟩
  | ref e =>
    obtain ⟨o, ho, ob⟩ := q.at_ e
    unfold truV at p
    simp only [ho] at p
    cases ob with
    | lst h1 h2 => exact ⟨_, .inl ⟨_, .inl (.inl h1), rfl⟩, by rw [h2.isEmpty]; exact Post.here (R := REq) q rfl p⟩
    | dK h1 h2 =>
      refine ⟨_, .inr (.inr ⟨_, h1, rfl⟩), ?_⟩
      have : ∀ {A : List (Key × Val)} {B : List (Key × V)}, KR G r H A B → B.isEmpty = A.isEmpty := fun z => by cases z <;> rfl
      rw [this h2]
      exact Post.here (R := REq) q rfl p
    | _ => exact p.elim
  | _ => exact p.elim
theorem mt_tru (he : ME X G W a ma) (hw : ∀ whole, isTrue a X.env whole = (do let v ← whole; standAt a.pos; holding [v] (truthy v)) := by intro _; rfl) : MT X G W a (tTru ma) := by
  refine ⟨fun pins s σ H Q I ⟨r, h, l, q, hl, p⟩ => ?_⟩
  exact PyProof.Rows.isTrue_plain (thn (he.run pins s σ H _ I ⟨r, h, l, q, hl, Post.bind p⟩) fun v s1 ⟨x, H1, I1, r1, ⟨r4, h4, w4, e4, q4, z4, p4⟩⟩ => tru_ok pins s1 σ H1 x v Q I1 r1 (post_tru q4 z4 p4)) (hw _)
def tAndM (a b : TM) : TM := fun l h => (a l h).bind fun c h1 => if c = true then b l h1 else .ok false h1
def tOrM (a b : TM) : TM := fun l h => (a l h).bind fun c h1 => if c = true then .ok true h1 else b l h1
def tNotM (a : TM) : TM := fun l h => (a l h).bind fun c h1 => .ok (!c) h1
variable {ta tb : TM} {rest : List Expr}
theorem mw_and1 (ha : MT X G W a ta) : MW X G W (.BoolOp .And [a] pos) ta := pw_and1 ha
theorem mw_or1 (ha : MT X G W a ta) : MW X G W (.BoolOp .Or [a] pos) ta := pw_or1 ha
theorem mw_and (ha : MT X G W a ta) (hb : MW X G W (.BoolOp .And (b :: rest) pos) tb) : MW X G W (.BoolOp .And (a :: b :: rest) pos) (tAndM ta tb) := by
  refine ⟨fun wh pins s σ H Q I ⟨r, h, l, q, hl, p⟩ => (pw_and ha hb).run wh pins s σ H Q I ⟨r, h, l, q, hl, (Post.bind p).imp fun c H1 ⟨r1, h1, w1, e1, q1, z1, p1⟩ => ?_⟩⟩
  cases z1
  cases c with
  | true => exact ⟨r1, h1, l, q1, hl.ext e1, p1⟩
  | false => exact Post.here (R := REq) q1 rfl p1
theorem mw_or (ha : MT X G W a ta) (hb : MW X G W (.BoolOp .Or (b :: rest) pos) tb) : MW X G W (.BoolOp .Or (a :: b :: rest) pos) (tOrM ta tb) := by
  refine ⟨fun wh pins s σ H Q I ⟨r, h, l, q, hl, p⟩ => (pw_or ha hb).run wh pins s σ H Q I ⟨r, h, l, q, hl, (Post.bind p).imp fun c H1 ⟨r1, h1, w1, e1, q1, z1, p1⟩ => ?_⟩⟩
  cases z1
  cases c with
  | true => exact Post.here (R := REq) q1 rfl p1
  | false => exact ⟨r1, h1, l, q1, hl.ext e1, p1⟩
theorem MW.mt (h : MW X G W a ta) : MT X G W a ta := PW.pt h
theorem mt_not (ha : MT X G W a ta) : MT X G W (.UnaryOp .Not a pos) (tNotM ta) := by
  refine ⟨fun pins s σ H Q I ⟨r, h, l, q, hl, p⟩ => (pt_not ha).run pins s σ H Q I ⟨r, h, l, q, hl, (Post.bind p).imp fun c H1 ⟨r1, h1, w1, e1, q1, z1, p1⟩ => ?_⟩⟩
  cases z1
  exact Post.here (R := REq) q1 rfl p1
/-- as values: every part but the last one a truth -/
def eAndM (a b : EM) : EM := fun l h => (a l h).bind fun x h1 => (toB x h1).bind fun c h2 => if c = true then b l h2 else .ok (.bl false) h2
def eOrM (a b : EM) : EM := fun l h => (a l h).bind fun x h1 => (toB x h1).bind fun c h2 => if c = true then .ok (.bl true) h2 else b l h2
/-- not x as a value, by truth -/
def eNotM (a : EM) : EM := fun l h => (a l h).bind fun x h1 => (truV x h1).bind fun c h2 => .ok (.bl (!c)) h2
theorem me_one {op} (ha : ME X G W a ma) : ME X G W (.BoolOp op [a] pos) ma := pe_one ha
theorem me_and (ha : ME X G W a ma) (hb : ME X G W (.BoolOp .And (b :: rest) pos) mb) : ME X G W (.BoolOp .And (a :: b :: rest) pos) (eAndM ma mb) := by
  refine ⟨fun pins s σ H Q I ⟨r, h, l, q, hl, p⟩ => (pe_and ha hb).run pins s σ H Q I ⟨r, h, l, q, hl, (Post.bind p).imp fun x H1 ⟨r1, h1, w1, e1, q1, z1, p1⟩ => ?_⟩⟩
  cases z1 with
  | bl c =>
    refine ⟨c, rfl, ?_⟩
    simp only [toB, Res.bind_ok] at p1
    cases c with
    | true => exact ⟨r1, h1, l, q1, hl.ext e1, p1⟩
    | false => exact Post.here q1 (.bl _) p1
  | _ => exact p1.elim
def eIfM (t : TM) (a b : EM) : EM := fun l h => (t l h).bind fun c h1 => if c = true then a l h1 else b l h1
def aNil : AM := fun _ h => .ok [] h
def aCons (a : EM) (t : AM) : AM := fun l h => (a l h).bind fun x h1 => (t l h1).bind fun xs h2 => .ok (x :: xs) h2
theorem ma_nil : MA X G W [] aNil := ⟨fun pos pins s σ H Q I ⟨r, h, l, q, hl, p⟩ => pa_nil.run pos pins s σ H Q I (Post.here q .nil p)⟩
variable {es : List Expr} {mt : AM}
theorem ma_cons (ha : ME X G W a ma) (hr : MA X G W es mt) (hs : starEach (a :: es) X.env = (false, eval a X.env) :: starEach es X.env := by rfl) : MA X G W (a :: es) (aCons ma mt) := by
  refine ⟨fun pos pins s σ H Q I ⟨r, h, l, q, hl, p⟩ => (pa_cons ha hr hs).run pos pins s σ H Q I ⟨r, h, l, q, hl, (Post.bind p).imp fun x H1 ⟨r1, h1, w1, e1, q1, z1, p1⟩ => ?_⟩⟩
  refine ⟨r1, h1, l, q1, hl.ext e1, (Post.bind p1).imp fun xs H2 ⟨r2, h2, w2, e2, q2, z2, p2⟩ => ?_⟩
  exact Post.here q2 (.cons (z1.ext e2) z2) p2
def mkTup (xs : List Val) (h : HM) : Res Val := if xs.length ≤ sizeLine then .ok (.tup xs) h else .bad
def mkLst (xs : List Val) (h : HM) : Res Val := if xs.length ≤ sizeLine then .ok (.lst xs) h else .bad
/-- a list that will be changed -/
def mkRef (xs : List Val) (h : HM) : Res Val := if xs.length ≤ sizeLine then .ok (.ref h.length) (h ++ [.lst xs]) else .bad
theorem post_tup {Q : VK} {xs : List Val} {vs : List V} (q : Rel G r h H) (z : VRs G r H xs vs) (p : Post G W r H s (VR G) Q (mkTup xs h)) : vs.length ≤ sizeLine ∧ ∀ a, H a = none → Q (.ref a) (upd H a (.tup vs)) := by
  unfold mkTup at p
  split at p
  · rename_i hz
    refine ⟨by rw [← z.length]; exact hz, fun a n => ?_⟩
    exact p r _ _ (ext_new q n) (q.laid n) (.tup upd_same (q.new n) (z.ext (ext_new q n)))
  · exact p.elim
theorem get_last {r : Ad} {a : Addr} : (r.push a).ix[r.ix.length]? = some a := by simp [Ad.push]
theorem post_ref {Q : VK} {xs : List Val} {vs : List V} (q : Rel G r h H) (z : VRs G r H xs vs) (p : Post G W r H s (VR G) Q (mkRef xs h)) : vs.length ≤ sizeLine ∧ ∀ a, H a = none → Q (.ref a) (upd H a (.lst vs)) := by
  unfold mkRef at p
  split at p
  · rename_i hz
    refine ⟨by rw [← z.length]; exact hz, fun a n => ?_⟩
    refine p (r.push a) _ _ (ext_alloc q n) (q.alloc n (.lst upd_same (z.ext (ext_alloc q n)))) (.ref ?_)
    rw [← q.len]; exact get_last
  · exact p.elim
def eDisp (mk : List Val → HM → Res Val) (m : AM) : EM := fun l h => (m l h).bind mk
theorem me_tup {k} (ha : MA X G W es mt) : ME X G W (.Tuple es k pos) (eDisp mkTup mt) := by
  refine ⟨fun pins s σ H Q I ⟨r, h, l, q, hl, p⟩ => (pe_tup ha).run pins s σ H Q I ⟨r, h, l, q, hl, (Post.bind p).imp fun xs H1 ⟨r1, h1, w1, e1, q1, z1, p1⟩ => ?_⟩⟩
  exact post_tup q1 z1 p1
theorem me_lstR (ha : MA X G W es mt) : ME X G W (.List es pos) (eDisp mkRef mt) := by
  refine ⟨fun pins s σ H Q I ⟨r, h, l, q, hl, p⟩ => (pe_lst ha).run pins s σ H Q I ⟨r, h, l, q, hl, (Post.bind p).imp fun xs H1 ⟨r1, h1, w1, e1, q1, z1, p1⟩ => ?_⟩⟩
  exact post_ref q1 z1 p1
end
end MM
namespace MM
open PySem L2
def sNil : SM := fun l h => .nx l h
def sSeq (a b : SM) : SM := fun l h => match a l h with
  | .nx l1 h1 => b l1 h1
  | x => x
def sDrop (m : EM) : SM := fun l h => (m l h).thn l fun _ h1 => .nx l h1
def sRet (m : EM) : SM := fun l h => (m l h).thn l fun v h1 => .rt v h1
def sIf (t : TM) (a b : SM) : SM := fun l h => (t l h).thn l fun c h1 => if c = true then a l h1 else b l h1
section
variable {X : Cx} {G : Glob} {W : WX} {r r1 : Ad} {H H1 : Hp} {h : HM} {l : Loc} {s : St} {st : Stmt} {rest : List Stmt} {a b : SM} {e : Expr} {m : EM} {pos : Pos}
theorem PostS.imp {D D' : Ends} {x : SRes} (p : PostS G W r H D x) (i : ∀ s H, D.nx s H → D'.nx s H) (j : ∀ v H, D.rt v H → D'.rt v H) : PostS G W r H D' x := by
  cases x with
  | nx l h' => exact fun r' H' s' e q z => i _ _ (p r' H' s' e q z)
  | rt v h' => exact fun r' H' u e q z => j _ _ (p r' H' u e q z)
  | exc c l h' => exact p
  | bad => exact p
theorem PostS.seq {D : Ends} {x : SRes} (p : PostS G W r H D (match x with | .nx l1 h1 => b l1 h1 | x => x)) : PostS G W r H { D with nx := tS G W b D } x := by
  cases x with
  | nx l h' => exact fun r' H' s' e q z => ⟨r', h', l, q, z, PostS.shift e p⟩
  | rt v h' => exact p
  | exc c l h' => exact p
  | bad => exact p
theorem mss_nil : MSs X G W [] sNil := ⟨fun pins s σ H D I ⟨r, h, l, q, hl, p⟩ => pss_nil.run pins s σ H D I (p r H σ Ext.refl q hl)⟩
theorem mss_cons (h1 : MS X G W st a) (h2 : MSs X G W rest b) : MSs X G W (st :: rest) (sSeq a b) := ⟨fun pins s σ H D I ⟨r, h, l, q, hl, p⟩ => (pss_cons h1 h2).run pins s σ H D I ⟨r, h, l, q, hl, PostS.seq p⟩⟩
theorem mss_one (h1 : MS X G W st a) : MSs X G W [st] a := ⟨fun pins s σ H D I p => (pss_one h1).run pins s σ H D I p⟩
theorem ms_expr (he : ME X G W e m) (hs : swapsWith e none pos.line X.env = pure false := by rfl) : MS X G W (.Expr e pos) (sDrop m) :=
  ⟨fun pins s σ H D I ⟨r, h, l, q, hl, p⟩ => (ps_expr he hs).run pins s σ H D I ⟨r, h, l, q, hl, (Post.thn hl p).imp fun v H1 ⟨r1, h1, x1, e1, q1, z1, p1⟩ => p1 r1 H1 σ Ext.refl q1 (hl.ext e1)⟩⟩
theorem ms_ret (he : ME X G W e m) : MS X G W (.Return (some e) pos) (sRet m) :=
  ⟨fun pins s σ H D I ⟨r, h, l, q, hl, p⟩ => (ps_ret he).run pins s σ H D I ⟨r, h, l, q, hl, (Post.thn hl p).imp fun v H1 ⟨r1, h1, x1, e1, q1, z1, p1⟩ => p1 r1 H1 v Ext.refl q1 z1⟩⟩
theorem ms_if {t : Expr} {mt : TM} {x y : List Stmt} (ht : MT X G W t mt) (ha : MSs X G W x a) (hb : MSs X G W y b) : MS X G W (.If t x y pos) (sIf mt a b) :=
  ⟨fun pins s σ H D I ⟨r, h, l, q, hl, p⟩ => (ps_if ht ha hb).run pins s σ H D I ⟨r, h, l, q, hl, (Post.thn hl p).imp fun c H1 ⟨r1, h1, x1, e1, q1, z1, p1⟩ => by
    cases z1
    cases c with
    | true => exact ⟨r1, h1, l, q1, hl.ext e1, p1⟩
    | false => exact ⟨r1, h1, l, q1, hl.ext e1, p1⟩⟩⟩
abbrev GM := Val → Loc → Option Loc
abbrev GsM := List Val → Loc → Option Loc
/-- the slots but those of vs are as they were -/
def Agree (vs : List Nat) (s s' : St) : Prop := s'.length = s.length ∧ ∀ j, j ∉ vs → s'[j]? = s[j]?
def Got (G : Glob) (vs : List Nat) (s : St) (r : Ad) (H : Hp) (Q : St → Hp → Prop) : Option Loc → Prop
  | some l' => ∀ s', LR G r H l' s' → Agree vs s s' → Q s' H
  | none => False
def tG (G : Glob) (vs : List Nat) (g : GM) : TG := fun v s H Q => ∃ r l x, LR G r H l s ∧ VR G r H x v ∧ Got G vs s r H Q (g x l)
def tGs (G : Glob) (vs : List Nat) (g : GsM) : TGs := fun us s H Q => ∃ r l xs, LR G r H l s ∧ VRs G r H xs us ∧ Got G vs s r H Q (g xs l)
abbrev MG (X : Cx) (G : Glob) (vs : List Nat) (t : Expr) (g : GM) : Prop := PG X t (tG G vs g)
abbrev MGs (X : Cx) (G : Glob) (vs : List Nat) (ts : List Expr) (g : GsM) : Prop := PGs X ts (tGs G vs g)
theorem Agree.refl {vs : List Nat} {s : St} : Agree vs s s := ⟨rfl, fun _ _ => rfl⟩
theorem Agree.set {i : Nat} {s : St} {v : V} : Agree [i] s (s.set i (some v)) := ⟨by simp, fun j hj => List.getElem?_set_ne (fun e => hj (by simp [e]))⟩
theorem Agree.trans {vs ws : List Nat} {s s1 s2 : St} (a : Agree vs s s1) (b : Agree ws s1 s2) : Agree (vs ++ ws) s s2 := ⟨b.1.trans a.1, fun j hj => by
  simp only [List.mem_append, not_or] at hj
  exact (b.2 j hj.2).trans (a.2 j hj.1)⟩
def gNm (i : Nat) : GM := fun x l => some (l.set i (some x))
theorem LR.set {i : Nat} {x : Val} {v : V} (hl : LR G r H l s) (z : VR G r H x v) : LR G r H (l.set i (some x)) (s.set i (some v)) := by
  refine ⟨by simp [hl.1], fun j w e => ?_⟩
  by_cases hj : j = i
  · subst hj
    have hlt : j < l.length := by
      have := (List.getElem?_eq_some_iff.mp e).1
      simpa using this
    rw [List.getElem?_set_self hlt] at e
    cases e
    exact ⟨v, List.getElem?_set_self (by rw [← hl.1]; exact hlt), z⟩
  · rw [List.getElem?_set_ne (Ne.symm hj)] at e
    rw [List.getElem?_set_ne (Ne.symm hj)]
    exact hl.2 j w e
theorem mg_name {i : Nat} {x : Str} (hN : X.N.Nodup) (hi : X.N[i]? = some x := by rfl) (hx : L2.Loc X.env.scope x := by first | exact Or.inl rfl | exact Or.inr rfl) (hf : X.fn x = true ∨ X.env.scope.names.lookup x = some .local := by first | exact .inl rfl | exact .inr rfl | assumption) : MG X G [i] (.Name x pos) (gNm i) :=
  ⟨fun pins s σ H v u Q I rv ⟨r, l, y, hl, z, p⟩ => (pg_name hN hi hx hf).run pins s σ H v u Q I rv (p _ (hl.set z) Agree.set)⟩
def gsNil : GsM := fun xs l => match xs with
  | [] => some l
  | _ => none
def gsCons (g : GM) (t : GsM) : GsM := fun xs l => match xs with
  | [] => none
  | x :: xs => (g x l).bind fun l1 => t xs l1
theorem mgs_nil : MGs X G [] [] gsNil := ⟨fun pins s σ H vs us Q I rv ⟨r, l, xs, hl, z, p⟩ => pgs_nil.run pins s σ H vs us Q I rv (by
  cases z with
  | nil => exact ⟨rfl, p σ hl Agree.refl⟩
  | cons _ _ => exact p.elim)⟩
variable {ts : List Expr} {t : Expr} {g : GM} {gs : GsM} {ws vs : List Nat}
theorem mgs_cons (h1 : MG X G ws t g) (h2 : MGs X G vs ts gs) (hs : (assignEach (t :: ts) X.env).map (·.2) = assign t X.env :: (assignEach ts X.env).map (·.2) := by rfl) : MGs X G (ws ++ vs) (t :: ts) (gsCons g gs) := by
  refine ⟨fun pins s σ H vs us Q I rv ⟨r, l, xs, hl, z, p⟩ => (pgs_cons h1 h2 hs).run pins s σ H vs us Q I rv ?_⟩
  cases z with
  | nil => exact p.elim
  | @cons x xs v us' z1 z2 =>
    refine ⟨_, _, rfl, r, l, _, hl, z1, ?_⟩
    simp only [gsCons] at p
    cases e : g x l with
    | none => rw [e] at p; exact p.elim
    | some l1 =>
      rw [e] at p
      refine fun s1 hl1 a1 => ⟨r, l1, _, hl1, z2, ?_⟩
      revert p
      simp only [Option.bind]
      cases gs xs l1 with
      | none => exact fun p => p
      | some l2 => exact fun p s2 hl2 a2 => p s2 hl2 (a1.trans a2)
def gTp (n : Nat) (gs : GsM) : GM := fun x l => match x with
  | .tup xs => if xs.length = n then gs xs l else none
  | .ptup xs => if xs.length = n then gs xs l else none
  | _ => none
theorem mg_tup {k n : Nat} (hc : X.calm = true) (h : MGs X G vs ts gs) (hn : (assignEach ts X.env).length = n := by rfl) (hst : (assignEach ts X.env).findIdx? (·.1) = none := by rfl) : MG X G vs (.Tuple ts k pos) (gTp n gs) := by
  refine ⟨fun pins s σ H v u Q I rv ⟨r, l, x, hl, z, p⟩ => (pg_tup hc h hn hst).run pins s σ H v u Q I rv ?_⟩
  cases z with
  | @tup a us' xs d m q =>
    simp only [gTp] at p
    split at p
    · rename_i hz
      exact ⟨_, _, rfl, .inl (.inl d), by rw [← q.length]; exact hz, r, l, xs, hl, q, p⟩
    · exact p.elim
  | @ptup a ob us' xs d dn m q =>
    simp only [gTp] at p
    split at p
    · rename_i hz
      exact ⟨_, _, rfl, .inl (.inr ⟨_, d⟩), by rw [← q.length]; exact hz, r, l, xs, hl, q, p⟩
    · exact p.elim
  | _ => exact p.elim
def sAsg (m : EM) (g : GM) : SM := fun l h => (m l h).thn l fun x h1 => match g x l with
  | some l1 => .nx l1 h1
  | none => .bad
theorem got_of {x : Val} {v : V} {D : Ends} (q : Rel G r h H) (hl : LR G r H l s) (z : VR G r H x v) (p : PostS G W r H D (match g x l with | some l1 => .nx l1 h | none => .bad)) : tG G vs g v s H D.nx := by
  refine ⟨r, l, x, hl, z, ?_⟩
  cases e : g x l with
  | none => rw [e] at p; exact p.elim
  | some l1 => rw [e] at p; exact fun s1 hl1 _ => p r H s1 Ext.refl q hl1
theorem ms_asg (he : ME X G W e m) (hg : MG X G vs t g) (hs : swapsWithSole [t] e pos.line X.env = pure false := by rfl) (hw : swappedStores [t] e X.env = pure none := by rfl)
    (h1 : (assignEach [t] X.env).map (·.2) = [assign t X.env] := by rfl) : MS X G W (.Assign [t] e pos) (sAsg m g) :=
  ⟨fun pins s σ H D I ⟨r, h, l, q, hl, p⟩ => (ps_asg he hg hs hw h1).run pins s σ H D I ⟨r, h, l, q, hl, (Post.thn hl p).imp fun v H1 ⟨r1, h1, x1, e1, q1, z1, p1⟩ => got_of q1 (hl.ext e1) z1 p1⟩⟩
theorem ms_set {i : Nat} {x : Str} {pos' : Pos} (hN : X.N.Nodup) (he : ME X G W e m) (hi : X.N[i]? = some x := by rfl) (hx : L2.Loc X.env.scope x := by first | exact Or.inl rfl | exact Or.inr rfl) (hs : swapsWith e (some (.Name x pos')) pos.line X.env = pure false := by rfl)
    (hf : X.fn x = true ∨ X.env.scope.names.lookup x = some .local := by first | exact .inl rfl | exact .inr rfl | assumption) : MS X G W (.Assign [.Name x pos'] e pos) (sAsg m (gNm i)) :=
  ⟨fun pins s σ H D I ⟨r, h, l, q, hl, p⟩ => (ps_set hN hi hx he hs hf).run pins s σ H D I ⟨r, h, l, q, hl, (Post.thn hl p).imp fun v H1 ⟨r1, h1, x1, e1, q1, z1, p1⟩ => p1 r1 H1 _ Ext.refl q1 ((hl.ext e1).set z1)⟩⟩
structure Src where
  len : Nat
  get : Nat → HM → Option Val
  ok : HM → Bool
def srcItems (xs : List Val) : Src := ⟨xs.length, fun i _ => xs[i]?, fun _ => true⟩
/-- a list that may change (not its length) -/
def lenIs (n k : Nat) (h : HM) : Bool := match h[n]? with
  | some (.lst xs) => xs.length == k
  | _ => false
def srcRef (n k : Nat) : Src := ⟨k, fun i h => if lenIs n k h = true then (match h[n]? with | some (.lst xs) => xs[i]? | _ => none) else none, lenIs n k⟩
def SrcR (G : Glob) (r : Ad) (H : Hp) (src : Src) (J : It) : Prop :=
  ∀ r2 H2 h2, Ex r H r2 H2 → (∀ a ∈ r.lk, H2 a = H a) → Rel G r2 h2 H2 →
    (∀ i x, i < src.len → src.get i h2 = some x → J.go i H2 ∧ ∀ v H3, J.yld i H2 v H3 → Ext r2 H2 r2 H3 ∧ Rel G r2 h2 H3 ∧ VR G r2 H3 x v) ∧ (src.ok h2 = true → J.stop src.len H2)
abbrev IM := Loc → HM → Res Src
def tI (G : Glob) (W : WX) (m : IM) : TI := fun s H R => ∃ r h l, Rel G r h H ∧ LR G r H l s ∧ Post G W r H s (SrcR G) R (m l h)
abbrev MI (X : Cx) (G : Glob) (W : WX) (tg e : Expr) (m : IM) : Prop := PI X tg e (tI G W m)
def forL (src : Src) (g : GM) (b : SM) : Nat → Nat → SM
  | 0, _, l, h => if src.ok h = true then .nx l h else .bad
  | n + 1, i, l, h => match src.get i h with
    | none => .bad
    | some x => match g x l with
      | none => .bad
      | some l1 => match b l1 h with
        | .nx l2 h2 => forL src g b n (i + 1) l2 h2
        | x => x
def sFor (ms : IM) (g : GM) (b : SM) : SM := fun l h => (ms l h).thn l fun src h1 => forL src g b src.len 0 l h1
theorem ms_for {iter : Expr} {body : List Stmt} {mi : IM} (hp : PassesOwn (model X.prog X.w) X.A X.env X.xe) (hc : X.calm = true) (hi : MI X G W t iter mi) (hg : MG X G vs t g) (hb : MSs X G W body b)
    (hs : ∀ x, foldedSetIterable iter X.env x = pure x := by intro _; rfl) : MS X G W (.For t iter body [] pos) (sFor mi g b) := by
  refine ⟨fun pins s σ H D I ⟨r, h, l, q, hl, p⟩ => (ps_for hp hc hi hg hb hs).run pins s σ H D I ⟨r, h, l, q, hl, (Post.thn hl p).imp fun J H1 ⟨r1, h1, src, e1, q1, z1, p1⟩ => ?_⟩⟩
  refine ⟨fun i m σ' H' => ∃ r' h' l', Ext r1 H1 r' H' ∧ Rel G r' h' H' ∧ LR G r' H' l' σ' ∧ i + m = src.len ∧ PostS G W r' H' D (forL src g b m i l' h'), ⟨src.len, r1, h1, l, Ext.refl, q1, hl.ext e1, Nat.zero_add _, p1⟩, ?_⟩
  rintro i m σ' H' ⟨r', h', l', e', q', hl', him, p'⟩
  obtain ⟨zg, zs⟩ := z1 r' H' h' e'.toEx e'.lks q'
  cases m with
  | zero =>
    left
    simp only [forL] at p'
    split at p'
    · rename_i ho
      have : i = src.len := by omega
      subst this
      exact ⟨zs ho, p' r' H' σ' Ext.refl q' hl'⟩
    · exact p'.elim
  | succ m =>
    right
    simp only [forL] at p'
    cases eg : src.get i h' with
    | none => rw [eg] at p'; exact p'.elim
    | some x =>
      rw [eg] at p'
      obtain ⟨go, yl⟩ := zg i x (by omega) eg
      refine ⟨go, fun σ2 H2 => ∃ r2 h2 l2, Ext r1 H1 r2 H2 ∧ Rel G r2 h2 H2 ∧ LR G r2 H2 l2 σ2 ∧ i + 1 + m = src.len ∧ PostS G W r2 H2 D (forL src g b m (i + 1) l2 h2), fun σ2 H2 n2 => ⟨m, Nat.lt_succ_self _, n2⟩, fun v H3 y => ?_⟩
      obtain ⟨e3, q3, z3⟩ := yl v H3 y
      refine ⟨r', l', x, hl'.ext e3, z3, ?_⟩
      simp only at p'
      cases ex : g x l' with
      | none => rw [ex] at p'; exact p'.elim
      | some l4 =>
        rw [ex] at p'
        simp only at p'
        refine fun σ4 hl4 _ => ⟨r', h', l4, q3, hl4, ?_⟩
        revert p'
        cases b l4 h' with
        | nx l5 h5 => exact fun p' r6 H6 σ6 e6 q6 hl6 => ⟨r6, h5, l5, (e'.trans e3).trans e6, q6, hl6, by omega, PostS.shift (e3.trans e6) p'⟩
        | rt v5 h5 => exact fun p' => PostS.shift (x := .rt v5 h5) e3 p'
        | exc c l5 h5 => exact fun p' => PostS.shift (x := .exc c l5 h5) (D := D) e3 p'
        | bad => exact fun p' => p'
end
end MM
namespace MM
open PySem L2
abbrev W0 : WX := fun _ _ _ _ => False
def wipeL (l : Loc) : List Nat → Loc
  | [] => l
  | v :: vs => (wipeL l vs).set v none
/-- one turn behind another; l: the locals, the own names wiped -/
def lcL (src : Src) (g : GM) (tt : TM) (te : EM) (l : Loc) : Nat → Nat → HM → List Val → Res (List Val)
  | 0, _, h, acc => if src.ok h = true then .ok acc h else .bad
  | n + 1, i, h, acc => match src.get i h with
    | none => .bad
    | some x => match g x l with
      | none => .bad
      | some l1 => match tt l1 h with
        | .ok true h1 => (match te l1 h1 with
          | .ok y h2 => if acc.length < sizeLine then lcL src g tt te l n (i + 1) h2 (acc ++ [y]) else .bad
          | _ => .bad)
        | .ok false h1 => lcL src g tt te l n (i + 1) h1 acc
        | _ => .bad
def frozen (xs : List Val) (h : HM) : Res Val := .ok (.lst xs) h
def fresh (xs : List Val) (h : HM) : Res Val := .ok (.ref h.length) (h ++ [.lst xs])
def eLc (mi : IM) (g : GM) (tt : TM) (te : EM) (vs : List Nat) (mk : List Val → HM → Res Val) : EM := fun l h => (mi l h).bind fun src h1 => (lcL src g tt te (wipeL l vs) src.len 0 h1 []).bind mk
def tYesM : TM := fun _ h => .ok true h
section
variable {X : Cx} {G : Glob} {W : WX} {r r1 r2 : Ad} {H H1 H2 : Hp} {h h1 : HM} {l : Loc} {s : St}
theorem LR.wipe (hl : LR G r H l s) (vs : List Nat) : LR G r H (wipeL l vs) (wipe s vs) := by
  induction vs with
  | nil => exact hl
  | cons v vs ih =>
    refine ⟨by simp [wipeL, L2.wipe, ih.1], fun i x e => ?_⟩
    simp only [wipeL, L2.wipe] at e ⊢
    by_cases hv : v = i
    · subst hv
      by_cases hlt : v < (wipeL l vs).length
      · rw [List.getElem?_set_self hlt] at e; cases e
      · rw [List.getElem?_eq_none (by simpa using hlt)] at e; cases e
    · rw [List.getElem?_set_ne hv] at e
      rw [List.getElem?_set_ne hv]
      exact ih.2 i x e
theorem wipe_get {s : St} {i : Nat} : ∀ {vs : List Nat}, (wipe s vs)[i]? = if i ∈ vs then (if i < s.length then some none else none) else s[i]?
  | [] => by simp [L2.wipe]
  | v :: vs => by
    simp only [L2.wipe]
    by_cases hv : v = i
    · subst hv
      by_cases hlt : v < (wipe s vs).length
      · rw [List.getElem?_set_self hlt]
        rw [wipe_length] at hlt
        simp [hlt]
      · rw [List.getElem?_eq_none (by simpa using hlt)]
        rw [wipe_length] at hlt
        simp [hlt]
    · rw [List.getElem?_set_ne hv, wipe_get]
      have : (i ∈ v :: vs) ↔ i ∈ vs := by
        simp only [List.mem_cons]
        exact ⟨fun z => z.resolve_left (Ne.symm hv), .inr⟩
      simp only [this]
theorem wipe_agree {ws vs : List Nat} {s s' : St} (a : Agree ws s s') (hv : ∀ v ∈ ws, v ∈ vs) : wipe s' vs = wipe s vs := by
  apply List.ext_getElem?
  intro i
  rw [wipe_get, wipe_get, a.1]
  by_cases hi : i ∈ vs
  · simp [hi]
  · simp only [hi, if_false]
    exact a.2 i fun m => hi (hv i m)
theorem wipe_wipe {vs : List Nat} {s : St} : wipe (wipe s vs) vs = wipe s vs := by
  apply List.ext_getElem?
  intro i
  rw [wipe_get, wipe_get, wipe_length]
  by_cases hi : i ∈ vs
  · simp [hi]
  · simp [hi, wipe_get]
/-- the state with the list at D hidden -/
structure Hid (G : Glob) (r1 : Ad) (H1 : Hp) (D : Addr) (r2 : Ad) (h2 : HM) (H2 : Hp) (xs : List Val) (us : List V) : Prop where
  ex : Ex (r1.hide D) (upd H1 D (.lst [])) r2 H2
  hh : r2.hid = D :: r1.hid
  hk : ∀ a ∈ r1.hid, H2 a = H1 a
  q : Rel G r2 h2 H2
  at_ : H2 D = some (.lst us)
  z : VRs G r2 H2 xs us
  lkk : r2.lk = r1.lk
  lks : ∀ a ∈ r1.lk, H2 a = H1 a
/-- what is to come of the list in the making -/
def PostC (G : Glob) (r1 : Ad) (H1 : Hp) (D : Addr) (Q : Hp → Prop) : Res (List Val) → Prop
  | .ok xs h2 => ∀ r2 H2 us, Hid G r1 H1 D r2 h2 H2 xs us → Q H2
  | _ => False
theorem post_frozen {D : Addr} {Q : VK} {x : Res (List Val)} (q1 : Rel G r1 h1 H1) (nD : H1 D = none) (p : Post G W0 r1 H1 s (VR G) Q (x.bind frozen)) (np : ∀ c h, x ≠ .exc c h) : PostC G r1 H1 D (Q (.ref D)) x := by
  cases x with
  | ok xs h2 =>
    intro r2 H2 us ⟨ex, hh, hk, q, at_, z, lkk, lks⟩
    have mD : D ∈ r2.hid := by rw [hh]; exact List.mem_cons_self
    exact p (r2.show_ r1.hid) H2 _ (ext_made q1 nD ex hh hk lkk lks) (q.show_ hh) (.lst at_ ⟨(q.hid D mD).1, (q1.new nD).2⟩ (z.ex (ex_show hh)))
  | exc c h => exact absurd rfl (np c h)
  | bad => exact p
theorem post_fresh {D : Addr} {Q : VK} {x : Res (List Val)} (q1 : Rel G r1 h1 H1) (nD : H1 D = none) (p : Post G W0 r1 H1 s (VR G) Q (x.bind fresh)) (np : ∀ c h, x ≠ .exc c h) : PostC G r1 H1 D (Q (.ref D)) x := by
  cases x with
  | ok xs h2 =>
    intro r2 H2 us ⟨ex, hh, hk, q, at_, z, lkk, lks⟩
    have mD : D ∈ r2.hid := by rw [hh]; exact List.mem_cons_self
    have xp : Ex r2 H2 ((r2.show_ r1.hid).push D) H2 := ⟨List.prefix_append _ _, fun a u za na => ⟨za, by
      refine ⟨?_, fun m => na.2 (by rw [hh]; exact List.mem_cons_of_mem _ m)⟩
      simp only [Ad.push, Ad.show_, List.mem_append, List.mem_singleton, not_or]
      exact ⟨na.1, fun e => na.2 (by rw [e]; exact mD)⟩⟩⟩
    have qp : Rel G ((r2.show_ r1.hid).push D) (h2 ++ [.lst xs]) H2 := by
      refine ⟨?_, by simp [Ad.push, Ad.show_, q.len], fun a m => ?_, fun n a w e1 e2 => ?_, fun a m => ⟨fun m2 => (q.lk a m).1 (by rw [hh]; exact List.mem_cons_of_mem _ m2), (q.lk a m).2⟩, fun n a w e1 e2 hw => ?_⟩
      · simp only [Ad.push, Ad.show_]
        rw [List.nodup_append]
        refine ⟨q.nd, by simp, fun a ha b hb => ?_⟩
        simp at hb
        subst hb
        exact fun e => (q.hid _ mD).1 (e ▸ ha)
      · have m2 : a ∈ r2.hid := by rw [hh]; exact List.mem_cons_of_mem _ m
        refine ⟨?_, (q.hd a m2).2⟩
        simp only [Ad.push, Ad.show_, List.mem_append, List.mem_singleton, not_or]
        exact ⟨(q.hid a m2).1, fun e => (q1.new nD).2 (e ▸ m)⟩
      · have e1 : (r2.ix ++ [D])[n]? = some a := e1
        by_cases hn : n < r2.ix.length
        · rw [List.getElem?_append_left hn] at e1
          rw [List.getElem?_append_left (by rw [← q.len]; exact hn)] at e2
          exact (q.ob n a w e1 e2).ex xp rfl
        · have hn' : n = r2.ix.length := by
            have := (List.getElem?_eq_some_iff.mp e1).1
            simp at this
            omega
          subst hn'
          rw [List.getElem?_append_right (Nat.le_refl _)] at e1
          rw [q.len, List.getElem?_append_right (Nat.le_refl _)] at e2
          simp at e1 e2
          subst e1 e2
          exact .lst at_ (z.ex xp)
      · have e1 : (r2.ix ++ [D])[n]? = some a := e1
        by_cases hn : n < r2.ix.length
        · rw [List.getElem?_append_left hn] at e1
          rw [List.getElem?_append_left (by rw [← q.len]; exact hn)] at e2
          exact q.lo n a w e1 e2 hw
        · have hn' : n = r2.ix.length := by
            have := (List.getElem?_eq_some_iff.mp e1).1
            simp at this
            omega
          subst hn'
          rw [q.len, List.getElem?_append_right (Nat.le_refl _)] at e2
          simp at e2
          subst e2
          cases hw
    refine p _ H2 _ ⟨((ex_hide nD).trans ex).trans xp, rfl, hk, lkk, lks⟩ qp (.ref ?_)
    rw [← q.len]
    exact get_last
  | exc c h => exact absurd rfl (np c h)
  | bad => exact p
/-- the loop of a comprehension -/
theorem lc_loop {src : Src} {J : It} {g : GM} {tt : TM} {te : EM} {own ws : List Nat} {D : Addr} {Q : Hp → Prop}
    (q1 : Rel G r1 h1 H1) (z1 : SrcR G r1 H1 src J) (hl : LR G r1 H1 l s) (hv : ∀ v ∈ ws, v ∈ own) (nD : H1 D = none)
    (p : PostC G r1 H1 D Q (lcL src g tt te (wipeL l own) src.len 0 h1 [])) :
    ∃ Wv : Nat → Nat → Hp → Prop, (∃ m, Wv 0 m (upd H1 D (.lst []))) ∧ ∀ i m H, Wv i m H →
      (J.stop i H ∧ Q H) ∨ (J.go i H ∧ ∃ Nx : Hp → Prop, (∀ H', Nx H' → ∃ m', m' < m ∧ Wv (i + 1) m' H') ∧ ∀ x H', J.yld i H x H' → tG G ws g x (wipe s own) H' fun σ2 H2 => wipe σ2 own = wipe s own ∧ tT G W0 tt σ2 H2 fun b H3 =>
        if b = true then tE G W0 te σ2 H3 fun y H4 => ∃ acc, H4 D = some (.lst acc) ∧ acc.length < sizeLine ∧ Nx (upd H4 D (.lst (acc ++ [y]))) else Nx H3) := by
  have hlw := hl.wipe own
  -- the sources seen through the hiding
  refine ⟨fun i m H => ∃ r' h' acc us, Ex (r1.hide D) (upd H1 D (.lst [])) r' H ∧ r'.hid = D :: r1.hid ∧ (∀ a ∈ r1.hid, H a = H1 a) ∧ (r'.lk = r1.lk ∧ ∀ a ∈ r1.lk, H a = H1 a) ∧ Rel G r' h' H ∧ H D = some (.lst us) ∧ VRs G r' H acc us ∧ i + m = src.len ∧
    PostC G r1 H1 D Q (lcL src g tt te (wipeL l own) m i h' acc), ⟨src.len, r1.hide D, h1, [], [], Ext.refl.toEx, rfl, fun a ha => ?_, ⟨rfl, fun a ha => ?_⟩, q1.hide nD, upd_same, .nil, Nat.zero_add _, p⟩, ?_⟩
  · exact upd_ne fun e => (q1.hid a ha).2 (by rw [e]; exact nD)
  · exact upd_ne fun e => q1.lk_there ha (by rw [e]; exact nD)
  rintro i m H ⟨r', h', acc, us, ex, hh, hk, ⟨lkk, lks⟩, q', hD, za, him, p'⟩
  have mD : D ∈ r'.hid := by rw [hh]; exact List.mem_cons_self
  have xt : Ext r1 H1 (r'.show_ r1.hid) H := ext_made q1 nD ex hh hk lkk lks
  have qs := q'.show_ hh
  have outD : (r'.show_ r1.hid).out D := ⟨(q'.hid D mD).1, (q1.new nD).2⟩
  obtain ⟨zg, zs⟩ := z1 _ H h' ((ex_hide nD).trans ex) lks q'
  cases m with
  | zero =>
    left
    simp only [lcL] at p'
    split at p'
    · rename_i ho
      have : i = src.len := by omega
      subst this
      exact ⟨zs ho, p' _ H us ⟨ex, hh, hk, q', hD, za, lkk, lks⟩⟩
    · exact p'.elim
  | succ m =>
    right
    simp only [lcL] at p'
    cases eg : src.get i h' with
    | none => rw [eg] at p'; exact p'.elim
    | some x =>
      rw [eg] at p'
      obtain ⟨go, yl⟩ := zg i x (by omega) eg
      refine ⟨go, fun H' => ∃ r' h' acc us, Ex (r1.hide D) (upd H1 D (.lst [])) r' H' ∧ r'.hid = D :: r1.hid ∧ (∀ a ∈ r1.hid, H' a = H1 a) ∧ (r'.lk = r1.lk ∧ ∀ a ∈ r1.lk, H' a = H1 a) ∧ Rel G r' h' H' ∧ H' D = some (.lst us) ∧ VRs G r' H' acc us ∧ i + 1 + m = src.len ∧
        PostC G r1 H1 D Q (lcL src g tt te (wipeL l own) m (i + 1) h' acc), fun H' n => ⟨m, Nat.lt_succ_self _, n⟩, fun v H3 y => ?_⟩
      obtain ⟨e3, q3, z3⟩ := yl v H3 y
      have hD3 : H3 D = some (.lst us) := (e3.hk D mD).trans hD
      have hk3 : ∀ a ∈ r1.hid, H3 a = H1 a := fun a ha => (e3.hk a (by rw [hh]; exact List.mem_cons_of_mem _ ha)).trans (hk a ha)
      have lks3 : ∀ a ∈ r1.lk, H3 a = H1 a := fun a ha => (e3.lks a (by rw [lkk]; exact ha)).trans (lks a ha)
      have exa : Ex r1 H1 r' H3 := ((ex_hide nD).trans ex).trans e3.toEx
      refine ⟨r', wipeL l own, x, hlw.ex exa, z3, ?_⟩
      simp only at p'
      cases ex1 : g x (wipeL l own) with
      | none => rw [ex1] at p'; exact p'.elim
      | some l1 =>
        rw [ex1] at p'
        simp only at p'
        refine fun σ2 hl2 ag => ⟨(wipe_agree ag hv).trans wipe_wipe, r', h', l1, q3, hl2, ?_⟩
        cases et : tt l1 h' with
        | bad => rw [et] at p'; exact p'.elim
        | exc c hc => rw [et] at p'; exact p'.elim
        | ok b h4 =>
          rw [et] at p'
          intro r4 H4 b' e4 q4 eb
          have eb : b' = b := eb
          subst eb
          have hh4 : r4.hid = D :: r1.hid := e4.hid.trans hh
          have mD4 : D ∈ r4.hid := by rw [hh4]; exact List.mem_cons_self
          have hD4 : H4 D = some (.lst us) := (e4.hk D mD).trans hD3
          have hk4 : ∀ a ∈ r1.hid, H4 a = H1 a := fun a ha => (e4.hk a (by rw [hh]; exact List.mem_cons_of_mem _ ha)).trans (hk3 a ha)
          have lkk4 : r4.lk = r1.lk := e4.lkk.trans lkk
          have lks4 : ∀ a ∈ r1.lk, H4 a = H1 a := fun a ha => (e4.lks a (by rw [lkk]; exact ha)).trans (lks3 a ha)
          have ex4 := (ex.trans e3.toEx).trans e4.toEx
          have za4 := (za.ext e3).ext e4
          cases b' with
          | false =>
            simp only [Bool.false_eq_true, if_false] at p' ⊢
            exact ⟨r4, h4, acc, us, ex4, hh4, hk4, ⟨lkk4, lks4⟩, q4, hD4, za4, by omega, p'⟩
          | true =>
            simp only [if_true] at p' ⊢
            refine ⟨r4, h4, l1, q4, hl2.ext e4, ?_⟩
            cases ee : te l1 h4 with
            | bad => rw [ee] at p'; exact p'.elim
            | exc c hc => rw [ee] at p'; exact p'.elim
            | ok y5 h5 =>
              rw [ee] at p'
              simp only at p'
              split at p'
              · rename_i hz
                intro r5 H5 u e5 q5 zu
                have hh5 : r5.hid = D :: r1.hid := e5.hid.trans hh4
                have mD5 : D ∈ r5.hid := by rw [hh5]; exact List.mem_cons_self
                have hD5 : H5 D = some (.lst us) := (e5.hk D mD4).trans hD4
                have za5 := za4.ext e5
                have xg : Ex r5 H5 r5 (upd H5 D (.lst (us ++ [u]))) := ex_grow mD5
                refine ⟨us, hD5, by rw [← za5.length]; exact hz, r5, h5, acc ++ [y5], us ++ [u], (ex4.trans e5.toEx).trans xg, hh5, fun a ha => ?_, ⟨e5.lkk.trans lkk4, fun a ha => ?_⟩, q5.grow mD5, upd_same, (za5.append (.cons zu .nil)).ex xg, by omega, p'⟩
                have hne : a ≠ D := fun e => (q1.hid a ha).2 (by rw [e]; exact nD)
                rw [upd_ne hne]
                exact (e5.hk a (by rw [hh4]; exact List.mem_cons_of_mem _ ha)).trans (hk4 a ha)
                have hne2 : a ≠ D := fun e => q1.lk_there ha (by rw [e]; exact nD)
                rw [upd_ne hne2]
                exact (e5.lks a (by rw [lkk4]; exact ha)).trans (lks4 a ha)
              · exact p'.elim
theorem lcL_noexc {src : Src} {g : GM} {tt : TM} {te : EM} {l : Loc} (c : Nat) (hc : HM) : ∀ (n i : Nat) (h : HM) (acc : List Val), lcL src g tt te l n i h acc ≠ .exc c hc
  | 0, i, h, acc => by simp only [lcL]; split <;> simp
  | n + 1, i, h, acc => by
    simp only [lcL]
    have ih := lcL_noexc (src := src) (g := g) (tt := tt) (te := te) (l := l) c hc n
    repeat' split
    all_goals first
      | exact ih _ _ _
      | simp
/-- post of a way that lets nothing out -/
theorem Post.w0 {α β : Type} {R : Ad → Hp → α → β → Prop} {Q : β → Hp → Prop} {x : Res α} (p : Post G W r H s R Q x) (np : ∀ c h, x ≠ .exc c h) : Post G W0 r H s R Q x := by
  cases x with
  | ok a h => exact p
  | exc c h => exact absurd rfl (np c h)
  | bad => exact p
variable {tg iter elt : Expr} {ifs : List Expr} {scope : Scope} {own : List (Str × Nat)} {pos : Pos} {mi : IM} {g : GM} {tt : TM} {te : EM} {ws : List Nat} {mk : List Val → HM → Res Val}
theorem lc_read {Q : VK} (hm : mk = frozen ∨ mk = fresh) (hv : ∀ v ∈ ws, v ∈ own.map (·.2)) (q : Rel G r h H) (hl : LR G r H l s) (p : Post G W r H s (VR G) Q (eLc mi g tt te (own.map (·.2)) mk l h)) :
    tLc (tI G W mi) (tG G ws g) (tT G W0 tt) (tE G W0 te) (own.map (·.2)) s H Q := by
  refine ⟨r, h, l, q, hl, (Post.bind p).imp fun J H1 ⟨r1, h1, src, e1, q1, z1, p1⟩ => fun D nD => ?_⟩
  have np := fun c hc => lcL_noexc (src := src) (g := g) (tt := tt) (te := te) (l := wipeL l (own.map (·.2))) c hc src.len 0 h1 []
  have np2 : ∀ c hc, (lcL src g tt te (wipeL l (own.map (·.2))) src.len 0 h1 []).bind mk ≠ .exc c hc := fun c hc => by
    cases e : lcL src g tt te (wipeL l (own.map (·.2))) src.len 0 h1 [] with
    | ok xs h2 => rcases hm with rfl | rfl <;> simp [frozen, fresh]
    | exc c' h' => exact absurd e (np c' h')
    | bad => simp
  refine lc_loop q1 z1 (hl.ext e1) hv nD ?_
  rcases hm with rfl | rfl
  · exact post_frozen q1 nD (p1.w0 np2) np
  · exact post_fresh q1 nD (p1.w0 np2) np
theorem me_lc (hm : mk = frozen ∨ mk = fresh) (hc : X.calm = true) (hN : X.N.Nodup) (hi : MI X G W tg iter mi) (ok : BlkOk X.N X.env.scope scope own)
    (hg : ∀ (s : Shared) (H : Hp) (C : Addr) (cl : List (Str × Addr)) (fp : List Addr), MG (X.blk s H scope (compEnvC scope cl C X.env) fp) G ws tg g) (ht : ∀ (s : Shared) (H : Hp) (C : Addr) (cl : List (Str × Addr)) (fp : List Addr), PTs (X.blk s H scope (compEnvC scope cl C X.env) fp) ifs (tT G W0 tt))
    (he : ∀ (s : Shared) (H : Hp) (C : Addr) (cl : List (Str × Addr)) (fp : List Addr), ME (X.blk s H scope (compEnvC scope cl C X.env) fp) G W0 elt te) (hv : ∀ v ∈ ws, v ∈ own.map (·.2)) (hs : ∀ x, foldedSetIterable iter X.env x = pure x := by intro _; rfl) :
    ME X G W (.ListComp elt [⟨tg, iter, ifs, 0⟩] scope pos) (eLc mi g tt te (own.map (·.2)) mk) :=
  ⟨fun pins s σ H Q I ⟨r, h, l, q, hl, p⟩ => (pe_lc hc hN hi ok hg ht he hs).run pins s σ H Q I (lc_read hm hv q hl p)⟩
theorem mts_nil : PTs X [] (tT G W0 tYesM) := ⟨fun pins s σ H Q I ⟨r, h, l, q, hl, p⟩ => pts_nil.run pins s σ H Q I (Post.here (R := REq) q rfl p)⟩
theorem mts_one {c : Expr} (h : MT X G W0 c tt) : PTs X [c] (tT G W0 tt) := pts_one h
/-- name = [..] on one line, the name a local -/
theorem ms_setLc {i : Nat} {y : Str} {py spos : Pos} (hm : mk = frozen ∨ mk = fresh) (hc : X.calm = true) (hN : X.N.Nodup) (hy : X.N[i]? = some y) (hyl : X.env.scope.names.lookup y = some .local)
    (hsw : swapsWith (.ListComp elt [⟨tg, iter, ifs, 0⟩] scope pos) (some (.Name y py)) spos.line X.env = pure true) (hi : MI X G W tg iter mi) (ok : BlkOk X.N X.env.scope scope own)
    (hg : ∀ (s : Shared) (H : Hp) (C : Addr) (cl : List (Str × Addr)) (fp : List Addr), MG (X.blk s H scope (compEnvC scope cl C X.env) fp) G ws tg g) (ht : ∀ (s : Shared) (H : Hp) (C : Addr) (cl : List (Str × Addr)) (fp : List Addr), PTs (X.blk s H scope (compEnvC scope cl C X.env) fp) ifs (tT G W0 tt))
    (he : ∀ (s : Shared) (H : Hp) (C : Addr) (cl : List (Str × Addr)) (fp : List Addr), ME (X.blk s H scope (compEnvC scope cl C X.env) fp) G W0 elt te) (hv : ∀ v ∈ ws, v ∈ own.map (·.2)) (hs : ∀ x, foldedSetIterable iter X.env x = pure x := by intro _; rfl) :
    MS X G W (.Assign [.Name y py] (.ListComp elt [⟨tg, iter, ifs, 0⟩] scope pos) spos) (sAsg (eLc mi g tt te (own.map (·.2)) mk) (gNm i)) :=
  ⟨fun pins s σ H D I ⟨r, h, l, q, hl, p⟩ => (ps_setLc hc hN hy hyl hsw hi ok hg ht he hs).run pins s σ H D I (lc_read hm hv q hl ((Post.thn hl p).imp fun v H1 ⟨r1, h1, x1, e1, q1, z1, p1⟩ => p1 r1 H1 _ Ext.refl q1 ((hl.ext e1).set z1)))⟩
end
end MM
namespace MM
open PySem L2
section
variable {X : Cx} {G : Glob} {W : WX} {r r1 r2 : Ad} {H H1 H2 : Hp} {h h1 : HM} {l : Loc} {s : St} {K : PySem.W.Frag} {a : Addr} {xs : List Val} {vs : List V} {n k : Nat}
theorem srcR_tup (d : Rd H a (.tup vs)) (o : r.out a) (z : VRs G r H xs vs) : SrcR G r H (srcItems xs) (Itt K a) := by
  intro r2 H2 h2 e lk q
  obtain ⟨d2, o2⟩ := e.rd d o
  have z2 := z.ex e
  refine ⟨fun i x _ ex => ?_, fun _ => ⟨vs, .inl d2, by show vs.length ≤ xs.length; rw [z.length]; exact Nat.le_refl _⟩⟩
  obtain ⟨v, hv, zv⟩ := z2.get (show xs[i]? = some x from ex)
  refine ⟨⟨vs, v, .inl d2, hv⟩, fun v' H3 ⟨e3, y⟩ => ?_⟩
  subst e3
  have := y vs (.inl d2)
  rw [hv] at this; cases this
  exact ⟨Ext.refl, q, zv⟩
theorem srcR_lst (d : Rd H a (.lst vs)) (o : r.out a) (z : VRs G r H xs vs) : SrcR G r H (srcItems xs) (Itl K a) := by
  intro r2 H2 h2 e lk q
  obtain ⟨d2, o2⟩ := e.rd d o
  have z2 := z.ex e
  refine ⟨fun i x _ ex => ?_, fun _ => ⟨vs, .inl d2, by show vs.length ≤ xs.length; rw [z.length]; exact Nat.le_refl _⟩⟩
  obtain ⟨v, hv, zv⟩ := z2.get (show xs[i]? = some x from ex)
  refine ⟨⟨vs, v, .inl d2, hv⟩, fun v' H3 ⟨e3, y⟩ => ?_⟩
  subst e3
  have := y vs (.inl d2)
  rw [hv] at this; cases this
  exact ⟨Ext.refl, q, zv⟩
theorem lenIs_some (e : lenIs n k h = true) : ∃ xs, h[n]? = some (.lst xs) ∧ xs.length = k := by
  unfold lenIs at e
  split at e
  · rename_i xs hx; exact ⟨xs, hx, by simpa using e⟩
  · cases e
theorem Rel.lst_at (q : Rel G r h H) (e : r.ix[n]? = some a) (hn : h[n]? = some (.lst xs)) : ∃ vs, H a = some (.lst vs) ∧ VRs G r H xs vs := by
  cases q.ob n a _ e hn with
  | lst h1 h2 => exact ⟨_, h1, h2⟩
theorem srcR_ref (e0 : r.ix[n]? = some a) : SrcR G r H (srcRef n k) (Itl K a) := by
  intro r2 H2 h2 e lk q
  have e2 := pre_get e.pre e0
  refine ⟨fun i x hi ex => ?_, fun hk => ?_⟩
  · simp only [srcRef] at ex
    split at ex
    · rename_i hk
      obtain ⟨xs, hx, hl⟩ := lenIs_some hk
      obtain ⟨vs, d2, z2⟩ := q.lst_at e2 hx
      rw [hx] at ex
      obtain ⟨v, hv, zv⟩ := z2.get ex
      refine ⟨⟨vs, v, .inl (.inl d2), hv⟩, fun v' H3 ⟨e3, y⟩ => ?_⟩
      subst e3
      have := y vs (.inl (.inl d2))
      rw [hv] at this; cases this
      exact ⟨Ext.refl, q, zv⟩
    · cases ex
  · obtain ⟨xs, hx, hl⟩ := lenIs_some (show lenIs n k h2 = true from hk)
    obtain ⟨vs, d2, z2⟩ := q.lst_at e2 hx
    exact ⟨vs, .inl (.inl d2), by show vs.length ≤ k; rw [← hl, z2.length]; exact Nat.le_refl _⟩
def signs (x : Str) : List Val := x.cps.toList.map fun c => .str ⟨#[c]⟩
theorem srcR_str (x : Str) : SrcR G r H (srcItems (signs x)) (Its x) := by
  intro r2 H2 h2 e lk q
  refine ⟨fun i v _ ex => ?_, fun _ => by show x.cps.size ≤ (signs x).length; simp [signs]⟩
  have ex' : (signs x)[i]? = some v := ex
  simp only [signs, List.getElem?_map, Option.map_eq_some_iff] at ex'
  obtain ⟨c, hc, rfl⟩ := ex'
  have hlt := (List.getElem?_eq_some_iff.mp hc).1
  refine ⟨by show i < x.cps.size; simpa using hlt, fun v' H3 ⟨e3, c', hc', hv⟩ => ?_⟩
  subst e3 hv
  have : c = c' := by
    rw [Array.getElem?_toList] at hc
    rw [hc] at hc'; exact Option.some.inj hc'
  subst this
  exact ⟨Ext.refl, q, .str _⟩
def intsV (lo : Int) (n : Nat) : List Val := (List.range n).map fun (i : Nat) => .int (lo + (i : Nat))
theorem intsV_get {lo : Int} {n i : Nat} {x : Val} (e : (intsV lo n)[i]? = some x) : i < n ∧ x = .int (lo + (i : Nat)) := by
  simp only [intsV, List.getElem?_map, Option.map_eq_some_iff] at e
  obtain ⟨c, hc, rfl⟩ := e
  obtain ⟨h1, h2⟩ := List.getElem?_eq_some_iff.mp hc
  simp at h1 h2
  subst h2
  exact ⟨h1, rfl⟩
theorem srcR_range (lo : Int) (n : Nat) : SrcR G r H (srcItems (intsV lo n)) (Itr lo n) := by
  intro r2 H2 h2 e lk q
  refine ⟨fun i v _ ex => ?_, fun _ => by show n ≤ (intsV lo n).length; simp [intsV]⟩
  obtain ⟨h1, rfl⟩ := intsV_get ex
  refine ⟨h1, fun v' H3 ⟨e3, hv⟩ => ?_⟩
  subst e3 hv
  exact ⟨Ext.refl, q, .int _⟩
/-- a value walked -/
def srcOf (v : Val) (h : HM) : Res Src := match v with
  | .tup xs => .ok (srcItems xs) h
  | .ptup xs => .ok (srcItems xs) h
  | .lst xs => .ok (srcItems xs) h
  | .str x => .ok (srcItems (signs x)) h
  | .ref n => match h[n]? with
    | some (.lst xs) => .ok (srcRef n xs.length) h
    | _ => .bad
  | _ => .bad
def iVal (m : EM) : IM := fun l h => (m l h).bind srcOf
variable {tg e : Expr} {m : EM} {pos p : Pos}
theorem mi_val (he : ME X G W e m) : MI X G W tg e (iVal m) := by
  refine ⟨fun pins s σ H R I ⟨r, h, l, q, hl, pp⟩ => ?_⟩
  refine thn (he.run pins s σ H _ I ⟨r, h, l, q, hl, Post.bind pp⟩) fun v s1 ⟨x, H1, I1, rx, ⟨r1, h1, w1, e1, q1, z1, p1⟩⟩ => ?_
  cases z1 with
  | @tup a vs xs d o z =>
    cases rx
    have q2 : R (Itt X.K a) H1 := Post.here q1 (srcR_tup (.inl d) o z) p1
    obtain ⟨its, rv, pl, hz⟩ := I1.tuple (.inl (.inl d))
    refine wpAny_pyIter_tuple (show s1.heap.IsTuple a its.toArray from pl) ?_
    refine ⟨s1.heap.objs.size, [s1.heap.objs.size], _, _, H1, rfl, I1.kept (t' := s1.toks) fun b o e => Heap.get?_push_of_some _ e, turn_tuple a _, ⟨_, Heap.get?_push_size _ rfl, rfl, rfl⟩, fun b hb => ?_, q2⟩
    have e : b = s1.heap.objs.size := by simpa using hb
    subst e
    exact I1.fpOk (Nat.le_refl _) (I1.hok.fresh (Nat.le_refl _))
  | @ptup a ob vs xs d dn o z =>
    cases rx
    have q2 : R (Itt X.K a) H1 := Post.here q1 (srcR_tup (.inr ⟨_, d⟩) o z) p1
    obtain ⟨its, rv, pl, hz⟩ := I1.tuple (.inl (.inr ⟨_, d⟩))
    refine wpAny_pyIter_tuple (show s1.heap.IsTuple a its.toArray from pl) ?_
    refine ⟨s1.heap.objs.size, [s1.heap.objs.size], _, _, H1, rfl, I1.kept (t' := s1.toks) fun b o e => Heap.get?_push_of_some _ e, turn_tuple a _, ⟨_, Heap.get?_push_size _ rfl, rfl, rfl⟩, fun b hb => ?_, q2⟩
    have e : b = s1.heap.objs.size := by simpa using hb
    subst e
    exact I1.fpOk (Nat.le_refl _) (I1.hok.fresh (Nat.le_refl _))
  | @lst a vs xs d o z =>
    cases rx
    have q2 : R (Itl X.K a) H1 := Post.here q1 (srcR_lst (.inl d) o z) p1
    obtain ⟨its, rv, pl, hz⟩ := I1.list (.inl (.inl d))
    refine wpAny_pyIter_list pl.isList ?_
    refine ⟨s1.heap.objs.size, [s1.heap.objs.size], _, _, H1, rfl, I1.kept (t' := s1.toks) fun b o e => Heap.get?_push_of_some _ e, turn_list a _, ⟨_, Heap.get?_push_size _ rfl, rfl, rfl⟩, fun b hb => ?_, q2⟩
    have e : b = s1.heap.objs.size := by simpa using hb
    subst e
    exact I1.fpOk (Nat.le_refl _) (I1.hok.fresh (Nat.le_refl _))
  | @ref n a e0 =>
    cases rx
    simp only [srcOf] at p1
    split at p1
    · rename_i xs hx
      have q2 : R (Itl X.K a) H1 := Post.here q1 (srcR_ref e0) p1
      obtain ⟨vs, d2, z2⟩ := q1.lst_at e0 hx
      obtain ⟨its, rv, pl, hz⟩ := I1.list (.inl (.inl d2))
      refine wpAny_pyIter_list pl.isList ?_
      refine ⟨s1.heap.objs.size, [s1.heap.objs.size], _, _, H1, rfl, I1.kept (t' := s1.toks) fun b o e => Heap.get?_push_of_some _ e, turn_list a _, ⟨_, Heap.get?_push_size _ rfl, rfl, rfl⟩, fun b hb => ?_, q2⟩
      have e : b = s1.heap.objs.size := by simpa using hb
      subst e
      exact I1.fpOk (Nat.le_refl _) (I1.hok.fresh (Nat.le_refl _))
    · exact p1.elim
  | str x =>
    obtain ⟨t, rfl⟩ := rx
    have q2 : R (Its x) H1 := Post.here q1 (srcR_str x) p1
    cases ha : x.cps.all (· < 128)
    · exact wpAny_pyIter_wide ha (pi_one (tk := s1.toks) I1 _ (turn_str _ x t "str_iterator" (.inr rfl)) ⟨_, Heap.get?_push_size _ rfl, rfl, rfl⟩ q2)
    · exact wpAny_pyIter_ascii ha (pi_one (tk := s1.toks) I1 _ (turn_str _ x t "str_ascii_iterator" (.inl rfl)) ⟨_, Heap.get?_push_size _ rfl, rfl, rfl⟩ q2)
  | _ => exact p1.elim
def rng1 (xs : List Val) (h : HM) : Res Src := match xs with
  | [.int j] => if -(2 ^ 62) ≤ j ∧ j < 2 ^ 62 then .ok (srcItems (intsV 0 j.toNat)) h else .bad
  | _ => .bad
def iArgs (f : List Val → HM → Res Src) (m : AM) : IM := fun l h => (m l h).bind f
variable {a1 a2 : Expr} {ma : AM}
theorem mi_range1 (hg : Gl X "range") (hm : X.mg "range" = none) (ha : MA X G W [a1] ma) (hs : starEach [a1] X.env = [(false, eval a1 X.env)] := by rfl) : MI X G W tg (.Call (.Name "range" p) [a1] [] pos) (iArgs rng1 ma) := by
  refine ⟨fun pins s σ H R I ⟨r, h, l, q, hl, pp⟩ => (pi_range1 hg hm ha hs).run pins s σ H R I ⟨r, h, l, q, hl, (Post.bind pp).imp fun vs H1 ⟨r1, h1, w1, e1, q1, z1, p1⟩ => ?_⟩⟩
  dsimp only [rng1] at p1
  split at p1
  · rename_i j
    split at p1
    · rename_i hj
      cases z1 with
      | cons z2 z3 => cases z3; cases z2; exact ⟨j, rfl, hj.1, hj.2, Post.here q1 (srcR_range 0 _) p1⟩
    · exact p1.elim
  · exact p1.elim
/-- a list's items (a tuple's are asked apart) -/
def seqL (v : Val) (h : HM) : Option (List Val) := match v with
  | .lst xs => some xs
  | .ref n => match h[n]? with
    | some (.lst xs) => some xs
    | _ => none
  | _ => none
theorem seqL_ok (q : Rel G r h H) {v : Val} {x : V} (z : VR G r H v x) (e : seqL v h = some xs) : ∃ a vs, x = .ref a ∧ H a = some (.lst vs) ∧ VRs G r H xs vs := by
  cases z with
  | lst d o zz => cases e; exact ⟨_, _, rfl, d, zz⟩
  | ref e0 =>
    simp only [seqL] at e
    split at e
    · rename_i ys hx
      cases e
      obtain ⟨vs, d, zz⟩ := q.lst_at e0 hx
      exact ⟨_, vs, rfl, d, zz⟩
    · cases e
  | _ => cases e
def zipV : List Val → List Val → List Val
  | x :: xs, y :: ys => .tup [x, y] :: zipV xs ys
  | _, _ => []
theorem zipV_get {xs : List Val} : ∀ {ys : List Val} {i : Nat} {x : Val}, (zipV xs ys)[i]? = some x → ∃ a b, xs[i]? = some a ∧ ys[i]? = some b ∧ x = .tup [a, b] := by
  induction xs with
  | nil => intro ys i x e; simp [zipV] at e
  | cons x0 xs ih =>
    intro ys i x e
    cases ys with
    | nil => simp [zipV] at e
    | cons y0 ys =>
      cases i with
      | zero => simp [zipV] at e; exact ⟨_, _, rfl, rfl, e.symm⟩
      | succ i => exact ih (by simpa [zipV] using e)
theorem zipV_len {xs : List Val} : ∀ {ys : List Val}, (zipV xs ys).length = min xs.length ys.length := by
  induction xs with
  | nil => intro ys; simp [zipV]
  | cons x0 xs ih =>
    intro ys
    cases ys with
    | nil => simp [zipV]
    | cons y0 ys => simp only [zipV, List.length_cons, ih]; omega
def tupL : Val → Option (List Val)
  | .tup xs => some xs
  | .ptup xs => some xs
  | _ => none
theorem tupL_ok {v : Val} {x : V} (z : VR G r H v x) (e : tupL v = some xs) : ∃ a vs, x = .ref a ∧ Rd H a (.tup vs) ∧ r.out a ∧ VRs G r H xs vs := by
  cases z with
  | tup d o zz => cases e; exact ⟨_, _, rfl, .inl d, o, zz⟩
  | ptup d dn o zz => cases e; exact ⟨_, _, rfl, .inr ⟨_, d⟩, o, zz⟩
  | _ => cases e
def zip2 (xs : List Val) (h : HM) : Res Src := match xs with
  | [.lst xs, .lst ys] => .ok (srcItems (zipV xs ys)) h
  | [a, b] => (match tupL a, tupL b with
    | some xs, some ys => .ok (srcItems (zipV xs ys)) h
    | _, _ => .bad)
  | _ => .bad
theorem srcR_zipL {b : Addr} {ys : List Val} {ws : List V} (d : Rd H a (.lst vs)) (o : r.out a) (z : VRs G r H xs vs) (d' : Rd H b (.lst ws)) (o' : r.out b) (z' : VRs G r H ys ws) : SrcR G r H (srcItems (zipV xs ys)) (Itz K a b) := by
  intro r2 H2 h2 e lk q
  obtain ⟨d2, o2⟩ := e.rd d o
  obtain ⟨d2', o2'⟩ := e.rd d' o'
  have z2 := z.ex e
  have z2' := z'.ex e
  refine ⟨fun i x _ ex => ?_, fun _ => ⟨vs, ws, .inl d2, .inl d2', ?_⟩⟩
  · obtain ⟨x0, y0, hx0, hy0, rfl⟩ := zipV_get (show (zipV xs ys)[i]? = some x from ex)
    obtain ⟨v, hv, zv⟩ := z2.get hx0
    obtain ⟨v', hv', zv'⟩ := z2'.get hy0
    refine ⟨⟨vs, ws, v, v', .inl d2, .inl d2', hv, hv'⟩, fun u H3 ⟨T, y, y', ev, nT, e3, hy, hy'⟩ => ?_⟩
    subst ev e3
    have t1 := hy vs (.inl d2)
    have t2 := hy' ws (.inl d2')
    rw [hv] at t1; cases t1
    rw [hv'] at t2; cases t2
    exact ⟨ext_new q nT, q.laid nT, .tup upd_same (q.new nT) (.cons (zv.ext (ext_new q nT)) (.cons (zv'.ext (ext_new q nT)) .nil))⟩
  · show vs.length ≤ (zipV xs ys).length ∨ ws.length ≤ (zipV xs ys).length
    rw [zipV_len, z.length, z'.length]; omega
theorem srcR_zipT {b : Addr} {ys : List Val} {ws : List V} (d : Rd H a (.tup vs)) (o : r.out a) (z : VRs G r H xs vs) (d' : Rd H b (.tup ws)) (o' : r.out b) (z' : VRs G r H ys ws) : SrcR G r H (srcItems (zipV xs ys)) (RZ.ItzT K a b) := by
  intro r2 H2 h2 e lk q
  obtain ⟨d2, o2⟩ := e.rd d o
  obtain ⟨d2', o2'⟩ := e.rd d' o'
  have z2 := z.ex e
  have z2' := z'.ex e
  refine ⟨fun i x _ ex => ?_, fun _ => ⟨vs, ws, .inl d2, .inl d2', ?_⟩⟩
  · obtain ⟨x0, y0, hx0, hy0, rfl⟩ := zipV_get (show (zipV xs ys)[i]? = some x from ex)
    obtain ⟨v, hv, zv⟩ := z2.get hx0
    obtain ⟨v', hv', zv'⟩ := z2'.get hy0
    refine ⟨⟨vs, ws, v, v', .inl d2, .inl d2', hv, hv'⟩, fun u H3 ⟨T, y, y', ev, nT, e3, hy, hy'⟩ => ?_⟩
    subst ev e3
    have t1 := hy vs (.inl d2)
    have t2 := hy' ws (.inl d2')
    rw [hv] at t1; cases t1
    rw [hv'] at t2; cases t2
    exact ⟨ext_new q nT, q.laid nT, .tup upd_same (q.new nT) (.cons (zv.ext (ext_new q nT)) (.cons (zv'.ext (ext_new q nT)) .nil))⟩
  · show vs.length ≤ (zipV xs ys).length ∨ ws.length ≤ (zipV xs ys).length
    rw [zipV_len, z.length, z'.length]; omega
theorem mi_zip {elts : List Expr} {kk : Nat} {tpos : Pos} (hg : Gl X "zip") (hm : X.mg "zip" = none) (ha : MA X G W [a1, a2] ma) (hs : starEach [a1, a2] X.env = (false, eval a1 X.env) :: starEach [a2] X.env := by rfl) (hpl : (backTo pos (starEach [a2] X.env)).any (·.1) = false := by rfl) :
    MI X G W (.Tuple elts kk tpos) (.Call (.Name "zip" p) [a1, a2] [] pos) (iArgs zip2 ma) := by
  refine ⟨fun pins s σ H R I ⟨r, h, l, q, hl, pp⟩ => (RZ.pi_zipA hg hm ha hs hpl).run pins s σ H R I ⟨r, h, l, q, hl, (Post.bind pp).imp fun vs H1 ⟨r1, h1, w1, e1, q1, z1, p1⟩ => ?_⟩⟩
  dsimp only [zip2] at p1
  split at p1
  · cases z1 with
    | cons z2 z3 => cases z3 with | cons z4 z5 => cases z5; cases z2 with | lst d o z => cases z4 with | lst d' o' z' => exact ⟨_, _, _, _, rfl, .inl ⟨.inl (.inl d), .inl (.inl d'), Post.here q1 (srcR_zipL (.inl d) o z (.inl d') o' z') p1⟩⟩
  · split at p1
    · rename_i xs ys e1' e2'
      cases z1 with
      | cons z2 z3 => cases z3 with
        | cons z4 z5 =>
          cases z5
          obtain ⟨a, vs, rfl, d, o, z⟩ := tupL_ok z2 e1'
          obtain ⟨b, ws, rfl, d', o', z'⟩ := tupL_ok z4 e2'
          exact ⟨_, _, _, _, rfl, .inr ⟨.inl d, .inl d', Post.here q1 (srcR_zipT d o z d' o' z') p1⟩⟩
    · exact p1.elim
  · exact p1.elim
end
end MM
namespace MM
open PySem L2
def PostF (G : Glob) (r : Ad) (H : Hp) (Q : VK) (E : XK) : Res Val → Prop
  | .ok v h' => ∀ r' H' u, Ext r H r' H' → Rel G r' h' H' → VR G r' H' v u → Q u H'
  | .exc c h' => ∀ r' H' C, Ext r H r' H' → Rel G r' h' H' → G.exc c = some C → E (.ref C) none H'
  | .bad => False
def spM (G : Glob) (n : Nat) (m : FM) : Sp := fun vs H Q E => vs.length = n ∧ ∃ r h xs, Rel G r h H ∧ VRs G r H xs vs ∧ PostF G r H Q E (m xs h)
/-- the function that a body is; n: its names -/
def mF (n : Nat) (b : SM) : FM := fun xs h => match b (xs.map some ++ List.replicate (n - xs.length) none) h with
  | .nx _ h1 => .ok .non h1
  | .rt v h1 => .ok v h1
  | .exc c _ h1 => .exc c h1
  | .bad => .bad
/-- the def at f does what m does -/
def FnM (P : Program) (w : World) (K : PySem.W.Frag) (mg : Str → Option Value) (base : Heap) (G : Glob) (k : Nat) (f : Addr) (n : Nat) (m : FM) : Prop :=
  ∃ fd ps, FnOk P w K mg base (L2.CX P w) k f fd ps (spM G n m) ∧ Binds K fd ps [] ∧ PySem.W.keepIn K (.ref f) = true
section
variable {P : Program} {w : World} {K : PySem.W.Frag} {mg : Str → Option Value} {base : Heap} {G : Glob} {k j : Nat} {f : Addr} {n : Nat} {m m' : FM}
theorem VRs.start {r : Ad} {H : Hp} {xs : List Val} {vs : List V} (z : VRs G r H xs vs) (N : List Str) : LR G r H (xs.map some ++ List.replicate (N.length - xs.length) none) (start N vs) := by
  have hl := z.length
  refine ⟨by simp [L2.start, hl], fun i v e => ?_⟩
  by_cases hi : i < xs.length
  · rw [List.getElem?_append_left (by simpa using hi)] at e
    simp only [List.getElem?_map, Option.map_eq_some_iff] at e
    obtain ⟨x, hx, ex⟩ := e
    cases ex
    obtain ⟨u, hu, zu⟩ := z.get hx
    refine ⟨u, ?_, zu⟩
    unfold L2.start
    rw [List.getElem?_append_left (by simp; omega)]
    simp [hu]
  · rw [List.getElem?_append_right (by simpa using Nat.le_of_not_lt hi)] at e
    rw [List.getElem?_replicate] at e
    split at e <;> cases e
theorem FnM.mono (F : FnM P w K mg base G j f n m) (h : j ≤ k) : FnM P w K mg base G k f n m :=
  let ⟨fd, ps, a, b, c⟩ := F
  ⟨fd, ps, a.mono h, b, c⟩
theorem FnM.imp (F : FnM P w K mg base G k f n m) (h : ∀ r h H xs vs Q E, Rel G r h H → VRs G r H xs vs → xs.length = n → PostF G r H Q E (m' xs h) → PostF G r H Q E (m xs h)) : FnM P w K mg base G k f n m' := by
  obtain ⟨fd, ps, a, b, c⟩ := F
  refine ⟨fd, ps, a.imp fun vs H Q E ⟨hl, r, h1, xs, q, z, p⟩ => ⟨hl, r, h1, xs, q, z, h r h1 H xs vs Q E q z (z.length.trans hl) p⟩, b, c⟩
theorem FnM.of {x qual : Str} {params : Arguments} {body : List Stmt} {scope : Scope} {fd : FuncData} {N ps : List Str} {b : SM} (F : FunD K x qual params body scope [] [] f fd) (S : FnScope N ps scope)
    (hb : ∀ (kV doc pm : Value) (an : Option Addr) (cdv ct : Value) (us : List Value), us.length = ps.length → bindArgs (PySem.W.fnOf x qual params body scope .none kV doc pm an cdv ct) ⟨us, []⟩ = pure (ps.zip us))
    (hbody : ∀ (cdv : Value) (A : Around) (outer : List Env) (s : Shared) (H : Hp) (E : XK), Room k (A.deeper (PyProof.Rows.envOfC qual scope s.heap.objs.size f cdv)) →
      MSs (cxOf (L2.CX P w) P w K mg base N qual scope f cdv A outer s H E) G (fun cls d _ H => E cls d H) body b) : FnM P w K mg base G (k + 1) f ps.length (mF N.length b) := by
  refine ⟨fd, ps, ?_, F.bindsN hb, F.kp⟩
  refine F.ok S (fun vs H Q E h => h.1) (fun cdv A outer s H vs Q E hr h => ⟨_, hbody cdv A outer s H E hr, ?_⟩)
  obtain ⟨hl, r, h1, xs, q, z, p⟩ := h
  refine ⟨r, h1, _, q, z.start N, ?_⟩
  unfold mF at p
  revert p
  cases b (xs.map some ++ List.replicate (N.length - xs.length) none) h1 with
  | nx l h2 => exact fun p r' H' s' e q' _ => p r' H' _ e q' .non
  | rt v h2 => exact fun p => p
  | exc c l h2 => exact fun p r' H' s' C e q' _ g => p r' H' C e q' g
  | bad => exact fun p => p
end
def ALen (m : AM) (n : Nat) : Prop := ∀ l h xs h1, m l h = .ok xs h1 → xs.length = n
theorem al_nil : ALen aNil 0 := fun l h xs h1 e => by cases e; rfl
theorem al_cons {a : EM} {t : AM} {n : Nat} (h : ALen t n) : ALen (aCons a t) (n + 1) := fun l h0 xs h1 e => by
  unfold aCons at e
  cases ea : a l h0 with
  | ok x h2 =>
    rw [ea] at e
    simp only [Res.bind_ok] at e
    cases et : t l h2 with
    | ok ys h3 =>
      rw [et] at e
      simp only [Res.bind_ok] at e
      cases e
      simp [h l h2 ys _ et]
    | exc c h3 => rw [et] at e; cases e
    | bad => rw [et] at e; cases e
  | exc c h2 => rw [ea] at e; cases e
  | bad => rw [ea] at e; cases e
def eCall (m : FM) (as : AM) : EM := fun l h => (as l h).bind m
section
variable {X : Cx} {G : Glob} {W : WX} {r r1 : Ad} {H H1 : Hp} {h : HM} {l : Loc} {s : St} {k n : Nat} {f : Addr} {m : FM} {x : Str} {p pos : Pos} {e : Expr} {es : List Expr} {ma : AM}
theorem PostF.of {Q : VK} {x : Res Val} (q : Post G W r H s (VR G) Q x) : PostF G r H Q (fun c d H => W c d s H) x := by
  cases x with
  | ok v h => exact q
  | exc c h => exact q
  | bad => exact q
theorem me_call (F : FnM X.prog X.w X.K X.mg X.base G k f n m) (hr : Room k X.A) (tk : Takes X W) (hg : Gl X x) (hm : X.mg x = some (.ref f)) (ha : MA X G W (e :: es) ma) (hl : ALen ma n)
    (hdb : (x == ("__debug__" : Str)) = false := by decide) (he : starEach (e :: es) X.env = (false, eval e X.env) :: starEach es X.env := by rfl) (hpl : (backTo pos (starEach es X.env)).any (·.1) = false := by rfl) :
    ME X G W (.Call (.Name x p) (e :: es) [] pos) (eCall m ma) := by
  obtain ⟨fd, ps, F, hb, hk⟩ := F
  refine ⟨fun pins s σ H Q I ⟨r, h, l, q, hl', pp⟩ => (pe_callS (E := WE W) F hr hg hm hk hb (fun σ => passAt tk σ) ha hdb he hpl).run pins s σ H Q I ⟨r, h, l, q, hl', ?_⟩⟩
  unfold eCall at pp
  cases ea : ma l h with
  | ok xs h1 =>
    rw [ea] at pp
    exact fun r' H' vs e' q' z => ⟨z.length.symm.trans (hl _ _ _ _ ea), r', h1, xs, q', z, PostF.of (W := W) (Post.shift e' pp)⟩
  | exc c h1 => rw [ea] at pp; exact pp
  | bad => rw [ea] at pp; exact pp
def isIns (c : Nat) (v : Val) (h : HM) : Bool := match v with
  | .ref n => (match h[n]? with
    | some (.ins c' _) => c' == c
    | _ => false)
  | _ => false
theorem ins_at {c : Nat} {v : Val} {x : V} (q : Rel G r h H) (z : VR G r H v x) (e : isIns c v h = true) : ∃ a C dx fv, x = .ref a ∧ H a = some (.ins C dx fv) ∧ G.cls c = some C ∧ fv.map (·.1) = (G.flds c).take fv.length := by
  unfold isIns at e
  cases z with
  | @ref n a e0 =>
    simp only at e
    split at e
    · rename_i c' vs hn
      have : c' = c := by simpa using e
      subst this
      cases q.ob n a _ e0 hn with
      | ins h1 h2 h3 h4 => exact ⟨a, _, _, _, rfl, h1, h2, h3⟩
    · cases e
  | _ => cases e
def eMeth (c : Nat) (m : FM) (mo : EM) (as : AM) : EM := fun l h => (mo l h).bind fun o h1 => if isIns c o h1 = true then (as l h1).bind fun xs h2 => m (o :: xs) h2 else .bad
theorem lookup_none {f : Str} {fs : List Str} : ∀ {fv : List (Str × V)}, (∀ g ∈ fv.map (·.1), g ≠ f) → fv.lookup f = none
  | [], _ => rfl
  | (g, v) :: r, h => by
    have hg : g ≠ f := h g (by simp)
    have hb : (f == g) = false := beq_eq_false_iff_ne.mpr (Ne.symm hg)
    simp only [List.lookup, hb]
    exact lookup_none (fs := fs) fun g' hg' => h g' (by simp at hg' ⊢; exact .inr hg')
theorem no_fld {c : Nat} {fv : List (Str × V)} {mn : Str} (hn : fv.map (·.1) = (G.flds c).take fv.length) (hf : mn ∉ G.flds c) : fv.lookup mn = none :=
  lookup_none (fs := []) fun g hg e => hf (by
    subst e
    rw [hn] at hg
    exact List.mem_of_mem_take hg)
variable {o : Expr} {mo : EM} {c : Nat} {C : Addr} {mn : Str} {apos : Pos}
theorem run_fnM {pins : List (Addr × Obj)} {s : Shared} {σ : St} {Q : VK} {us : List Value} {vs : List V} {xs : List Val} (F : FnM X.prog X.w X.K X.mg X.base G k f n m) (hr : Room k X.A) (tk : Takes X W) (I : Inv X pins σ H s) (rv : Vals vs us) (q : Rel G r h H) (z : VRs G r H xs vs)
    (hl : xs.length = n) (pp : Post G W r H σ (VR G) Q (m xs h)) : wpAny (model X.prog X.w) X.A (call (.ref f) us) (EP X pins σ Q) X.xe s := by
  obtain ⟨fd, ps, F, hb, hk⟩ := F
  exact run_fnS (E := WE W) F hr hb (passAt tk σ) I rv ⟨z.length.symm.trans hl, r, h, xs, q, z, PostF.of (W := W) pp⟩
theorem me_meth {pl : Sem Bool} (ho : ME X G W o mo) (hc : G.cls c = some C) (cl : Cls X.K C) (hm : Meth X.K C mn f) (hf : mn ∉ G.flds c) (F : FnM X.prog X.w X.K X.mg X.base G k f (n + 1) m) (hr : Room k X.A) (tk : Takes X W) (ha : MA X G W (e :: es) ma) (hl : ALen ma n)
    (hst : starEach (e :: es) X.env = (false, eval e X.env) :: starEach es X.env := by rfl) (hpl : (backTo pos (starEach es X.env)).any (·.1) = false := by rfl)
    (ht : eval (.Call (.Attribute o mn apos) (e :: es) [] pos) X.env = (do
      let ov ← eval o X.env
      standAt apos.atName
      let (f, first) ← holding [ov] (getMethod ov mn pl)
      callWith pos f first (backTo pos (starEach (e :: es) X.env)) (backToKw pos (keywordEach [] X.env))) := by rfl) :
    ME X G W (.Call (.Attribute o mn apos) (e :: es) [] pos) (eMeth c m mo ma) := by
  refine ⟨fun pins s σ H Q I ⟨r, h, l, q, hl', pp⟩ => ?_⟩
  refine PySem.W.methodCall_KW (pl := pl) (thn (ho.run pins s σ H _ I ⟨r, h, l, q, hl', Post.bind pp⟩) fun u s1 ⟨x, H1, I1, rx, ⟨r1, h1, v1, e1, q1, z1, p1⟩⟩ => ?_) ht
  dsimp only at p1
  split at p1
  · rename_i hi
    obtain ⟨a, C', dx, fv, rfl, hH, hC', hn⟩ := ins_at q1 z1 hi
    rw [hc] at hC'; cases hC'
    obtain rfl : u = Value.ref a := rx
    refine getmeth_ok I1 hH cl hm (no_fld hn hf) ?_
    refine PySem.W.callWith_K (first := [.ref a]) (h₀ := X.base) I.ok.mod.kin hm.kp (thn (ha.run pos pins s1 σ H1 (fun vs H2 => ∃ r2 h2 xs, Ext r1 H1 r2 H2 ∧ Rel G r2 h2 H2 ∧ VRs G r2 H2 xs vs ∧ xs.length = n ∧ Post G W r2 H2 σ (VR G) Q (m (v1 :: xs) h2)) I1 ⟨r1, h1, l, q1, hl'.ext e1, ?_⟩) fun us s2 ⟨vs, H2, I2, rr, r2, h2, xs, e2, q2, z2, hl2, p2⟩ => ⟨I2.kIn, ?_⟩) hst hpl
    · cases ea : ma l h1 with
      | ok xs h2 => rw [ea] at p1; exact fun r' H' vs e' q' z => ⟨r', h2, xs, e', q', z, hl _ _ _ _ ea, Post.shift e' p1⟩
      | exc c h2 => rw [ea] at p1; exact p1
      | bad => rw [ea] at p1; exact p1
    · exact run_fnM (us := .ref a :: us) (vs := .ref a :: vs) F hr tk I2 (.cons rfl rr) q2 (.cons (z1.ext e2) z2) (by simp [hl2]) p2
  · exact p1.elim
theorem me_meth0 {pl : Sem Bool} (ho : ME X G W o mo) (hc : G.cls c = some C) (cl : Cls X.K C) (hm : Meth X.K C mn f) (hf : mn ∉ G.flds c) (F : FnM X.prog X.w X.K X.mg X.base G k f 1 m) (hr : Room k X.A) (tk : Takes X W)
    (ht : eval (.Call (.Attribute o mn apos) [] [] pos) X.env = (do
      let ov ← eval o X.env
      standAt apos.atName
      let (f, first) ← holding [ov] (getMethod ov mn pl)
      callWith pos f first (backTo pos (starEach [] X.env)) (backToKw pos (keywordEach [] X.env))) := by rfl) :
    ME X G W (.Call (.Attribute o mn apos) [] [] pos) (eMeth c m mo aNil) := by
  refine ⟨fun pins s σ H Q I ⟨r, h, l, q, hl', pp⟩ => ?_⟩
  refine PySem.W.methodCall_KW (pl := pl) (thn (ho.run pins s σ H _ I ⟨r, h, l, q, hl', Post.bind pp⟩) fun u s1 ⟨x, H1, I1, rx, ⟨r1, h1, v1, e1, q1, z1, p1⟩⟩ => ?_) ht
  dsimp only at p1
  split at p1
  · rename_i hi
    obtain ⟨a, C', dx, fv, rfl, hH, hC', hn⟩ := ins_at q1 z1 hi
    rw [hc] at hC'; cases hC'
    obtain rfl : u = Value.ref a := rx
    refine getmeth_ok I1 hH cl hm (no_fld hn hf) ?_
    exact PySem.W.callWith_K0 (first := [.ref a]) I1.kIn hm.kp (run_fnM (us := [.ref a]) (vs := [.ref a]) F hr tk I1 (.cons rfl .nil) q1 (.cons z1 .nil) rfl p1)
  · exact p1.elim
def eMake (c : Nat) (m : FM) (as : AM) : EM := fun l h => (as l h).bind fun xs h1 => (m (.ref h1.length :: xs) (h1 ++ [.ins c []])).bind fun v h2 => match v with
  | .non => .ok (.ref h1.length) h2
  | _ => .bad
theorem me_make {c : Nat} {C : Addr} (M : Mk X.K C f) (hc : G.cls c = some C) (F : FnM X.prog X.w X.K X.mg X.base G k f (n + 1) m) (hr : Room (k + 1) X.A) (tk : Takes X W) (hg : Gl X x) (hm : X.mg x = some (.ref C)) (ha : MA X G W (e :: es) ma) (hl : ALen ma n) (nx : ∀ xs h c' h', m xs h ≠ .exc c' h')
    (hdb : (x == ("__debug__" : Str)) = false := by decide) (he : starEach (e :: es) X.env = (false, eval e X.env) :: starEach es X.env := by rfl) (hpl : (backTo pos (starEach es X.env)).any (·.1) = false := by rfl) :
    ME X G W (.Call (.Name x p) (e :: es) [] pos) (eMake c m ma) := by
  obtain ⟨fd, ps, F, hb, hk⟩ := F
  refine ⟨fun pins s σ H Q I ⟨r, h, l, q, hl', pp⟩ => (pe_make (E := E0) M F hr hg hm hb .nil passL ha hdb he hpl).run pins s σ H Q I ⟨r, h, l, q, hl', ?_⟩⟩
  unfold eMake at pp
  cases ea : ma l h with
  | ok xs h1 =>
    rw [ea] at pp
    intro r' H' vs e' q' z y dx ny ndx nxy
    simp only [Res.bind_ok] at pp
    have q2 := q'.laid (o := .own y) ndx
    have x2 := ext_new (o := .own y) q' ndx
    have ny2 : (upd H' dx (.own y)) y = none := by rw [upd_ne (Ne.symm nxy)]; exact ny
    have x3 := ext_alloc (o := .ins C dx []) q2 ny2
    have q3 : Rel G (r'.push y) (h1 ++ [.ins c []]) (upd (upd H' dx (.own y)) y (.ins C dx [])) := q2.alloc ny2 (.ins upd_same hc (by simp) .nil)
    have ex := (e'.trans x2).trans x3
    refine ⟨?_, r'.push y, h1 ++ [.ins c []], .ref h1.length :: xs, q3, .cons (.ref ?_) (by rw [List.append_nil]; exact z.ext (x2.trans x3)), ?_⟩
    · have := hl _ _ _ _ ea
      simp [← z.length, this]
    · rw [← q'.len]; exact get_last
    · cases em : m (.ref h1.length :: xs) (h1 ++ [.ins c []]) with
      | ok v h2 =>
        rw [em] at pp
        intro r4 H4 u e4 q4 z4
        simp only [Res.bind_ok] at pp
        cases z4 with
        | non =>
          refine ⟨rfl, pp r4 H4 _ (ex.trans e4) q4 (.ref ?_)⟩
          refine pre_get e4.pre ?_
          rw [← q'.len]; exact get_last
        | _ => exact pp.elim
      | exc c' h' => exact absurd em (nx _ _ _ _)
      | bad => rw [em] at pp; exact pp
  | exc c h1 => rw [ea] at pp; exact pp
  | bad => rw [ea] at pp; exact pp
def getF (c i : Nat) (v : Val) (h : HM) : Res Val := match v with
  | .ref n => (match h[n]? with
    | some (.ins c' vs) => if c' = c then (match vs[i]? with
      | some y => .ok y h
      | none => .bad) else .bad
    | _ => .bad)
  | _ => .bad
theorem lookup_at {fs : List Str} (nd : fs.Nodup) {i : Nat} {fn : Str} (hi : fs[i]? = some fn) : ∀ {fv : List (Str × V)}, fv.map (·.1) = fs.take fv.length → ∀ {y : V}, (fv.map (·.2))[i]? = some y → fv.lookup fn = some y := by
  intro fv hf y hy
  induction fv generalizing fs i with
  | nil => simp at hy
  | cons p fv ih =>
    cases fs with
    | nil => simp at hi
    | cons g fs =>
      simp only [List.map_cons, List.length_cons, List.take_succ_cons, List.cons.injEq] at hf
      cases i with
      | zero =>
        simp at hi hy
        subst hi hy
        obtain ⟨a, b⟩ := p
        simp only at hf
        simp [List.lookup, hf.1]
      | succ i =>
        have hne : fn ≠ p.1 := by
          rw [hf.1]
          intro e
          subst e
          exact (List.nodup_cons.mp nd).1 (List.mem_of_getElem? (by simpa using hi))
        obtain ⟨a, b⟩ := p
        have hb : (fn == a) = false := beq_eq_false_iff_ne.mpr hne
        simp only [List.lookup, hb]
        exact ih (List.nodup_cons.mp nd).2 (by simpa using hi) hf.2 (by simpa using hy)
def eFld (c i : Nat) (mo : EM) : EM := fun l h => (mo l h).bind (getF c i)
theorem me_fld {c i : Nat} {C : Addr} {fn : Str} (ho : ME X G W o mo) (hc : G.cls c = some C) (cl : Cls X.K C) (na : NoAttr X.K C fn) (nd : (G.flds c).Nodup) (hi : (G.flds c)[i]? = some fn) (hb : attributeBase o fn X.env (eval o X.env) = eval o X.env := by rfl) : ME X G W (.Attribute o fn pos) (eFld c i mo) := by
  refine ⟨fun pins s σ H Q I ⟨r, h, l, q, hl', pp⟩ => (pe_fld ho hb).run pins s σ H Q I ⟨r, h, l, q, hl', (Post.bind pp).imp fun x H1 ⟨r1, h1, v1, e1, q1, z1, p1⟩ => ?_⟩⟩
  unfold getF at p1
  cases z1 with
  | @ref n a e0 =>
    simp only at p1
    split at p1
    · rename_i c' vs hn
      split at p1
      · rename_i hcc
        subst hcc
        split at p1
        · rename_i y hy
          cases q1.ob n a _ e0 hn with
          | ins h1 h2 h3 h4 =>
            rw [hc] at h2; cases h2
            obtain ⟨u, hu, zu⟩ := h4.get hy
            exact ⟨a, C, _, _, u, rfl, h1, cl, na, lookup_at nd hi h3 hu, Post.here q1 zu p1⟩
        · exact p1.elim
      · exact p1.elim
    · exact p1.elim
  | _ => exact p1.elim
theorem putF_at {fs : List Str} (nd : fs.Nodup) {i : Nat} {fn : Str} (hi : fs[i]? = some fn) (y : V) : ∀ {fv : List (Str × V)}, fv.map (·.1) = fs.take fv.length → i ≤ fv.length →
    ((putF fn y fv).map (·.1) = fs.take (putF fn y fv).length) ∧ (putF fn y fv).map (·.2) = if i < fv.length then (fv.map (·.2)).set i y else fv.map (·.2) ++ [y] := by
  intro fv hf hle
  induction fv generalizing fs i with
  | nil =>
    have : i = 0 := by simpa using hle
    subst this
    cases fs with
    | nil => simp at hi
    | cons g fs => simp at hi; subst hi; simp [putF]
  | cons p fv ih =>
    obtain ⟨a, b⟩ := p
    cases fs with
    | nil => simp at hi
    | cons g fs =>
      simp only [List.map_cons, List.length_cons, List.take_succ_cons, List.cons.injEq] at hf
      cases i with
      | zero =>
        simp at hi
        subst hi
        simp [putF, hf.1, hf.2]
      | succ i =>
        obtain ⟨hf1, hf2⟩ := hf
        have hne : ¬ a = fn := by
          rw [hf1]
          intro e
          subst e
          exact (List.nodup_cons.mp nd).1 (List.mem_of_getElem? (by simpa using hi))
        obtain ⟨j1, j2⟩ := ih (List.nodup_cons.mp nd).2 (by simpa using hi) hf2 (by simpa using hle)
        have e0 : putF fn y ((a, b) :: fv) = (a, b) :: putF fn y fv := by
          show (if a = fn then (a, y) :: fv else (a, b) :: putF fn y fv) = _
          rw [if_neg hne]
        rw [e0]
        refine ⟨by simp only [List.map_cons, List.length_cons, List.take_succ_cons, j1, hf1], ?_⟩
        simp only [List.map_cons, List.length_cons, j2]
        by_cases hlt : i < fv.length
        · simp [hlt]
        · simp [hlt]
def setF (c i : Nat) (v y : Val) (h : HM) : Option HM := match v with
  | .ref n => (match h[n]? with
    | some (.ins c' vs) => if c' = c ∧ i ≤ vs.length ∧ vs.length < 1000 then some (h.set n (.ins c (if i < vs.length then vs.set i y else vs ++ [y]))) else none
    | _ => none)
  | _ => none
def sFldM (c i : Nat) (mo mv : EM) : SM := fun l h => (mv l h).thn l fun y h1 => (mo l h1).thn l fun o h2 => match setF c i o y h2 with
  | some h3 => .nx l h3
  | none => .bad
theorem ms_fld {c i : Nat} {C : Addr} {fn : Str} {pos' : Pos} {v : Expr} {mv : EM} (ho : ME X G W o mo) (hv : ME X G W v mv) (hc : G.cls c = some C) (cl : Cls X.K C) (na : NoAttr X.K C fn) (nd : (G.flds c).Nodup) (hi : (G.flds c)[i]? = some fn) (hs : swapsWith v (some (.Attribute o fn pos')) pos.line X.env = pure false := by rfl) :
    MS X G W (.Assign [.Attribute o fn pos'] v pos) (sFldM c i mo mv) := by
  refine ⟨fun pins s σ H D I ⟨r, h, l, q, hl, p⟩ => (ps_fld ho hv hs).run pins s σ H D I ⟨r, h, l, q, hl, (Post.thn hl p).imp fun y H1 ⟨r1, h1, v1, e1, q1, z1, p1⟩ => ?_⟩⟩
  refine ⟨r1, h1, l, q1, hl.ext e1, (Post.thn (hl.ext e1) p1).imp fun x H2 ⟨r2, h2, v2, e2, q2, z2, p2⟩ => ?_⟩
  have zy := z1.ext e2
  unfold setF at p2
  cases z2 with
  | @ref n a e0 =>
    simp only at p2
    cases hn : h2[n]? with
    | none => rw [hn] at p2; exact p2.elim
    | some ob =>
      rw [hn] at p2
      cases ob with
      | ins c' vs =>
        simp only at p2
        split at p2
        · rename_i h3 hcond
          split at hcond
          · rename_i hcc
            cases hcond
            obtain ⟨hc1, hc2, hc3⟩ := hcc
            subst hc1
            cases q2.ob n a _ e0 hn with
            | @ins _ C' dx _ fv g1 g2 g3 g4 =>
              rw [hc] at g2; cases g2
              have nf : ∀ o u, H2 a ≠ some (.frz o u) := fun o u z => by rw [g1] at z; cases z
              have hlen : vs.length = fv.length := by simpa using g4.length
              obtain ⟨k1, k2⟩ := putF_at nd hi y g3 (by omega)
              refine ⟨a, C, _, _, rfl, g1, cl, na, by omega, ?_⟩
              refine p2 r2 _ σ (ext_write q2 e0 nf) (q2.write e0 nf (.ins upd_same hc k1 ?_)) ((hl.ext e1).ext e2 |>.ext (ext_write q2 e0 nf))
              rw [k2, hlen]
              have g4' := g4.ext (ext_write q2 (o := .ins C dx (putF fn y fv)) e0 nf)
              have zy' := zy.ext (ext_write q2 (o := .ins C dx (putF fn y fv)) e0 nf)
              split
              · exact g4'.set i zy'
              · exact g4'.append (.cons zy' .nil)
          · cases hcond
        · exact p2.elim
      | _ => exact p2.elim
  | _ => exact p2.elim
def sRaise (c : Nat) : SM := fun l h => .exc c l h
theorem ms_raise {c : Nat} {C : Addr} {B newId initId : String} {bmB : List Value} {mt : Str} {j : Nat} {p2 pos' : Pos} (hc : X.calm = true) (tk : Takes X W) (F : ExcBaseFacts B newId initId bmB) (qx : PySem.W.excIn X.K C bmB newId = true) (he : G.exc c = some C) (gC : X.mg x = some (.ref C)) (kC : PySem.W.keepIn X.K (.ref C) = true) (rz : Raises X (.ref C)) (hg : Gl X x)
    (hdb : (x == ("__debug__" : Str)) = false := by decide) : MS X G W (.Raise (some (.Call (.Name x p) [.Constant (.str mt) j p2] [] pos)) none pos') (sRaise c) :=
  ⟨fun pins s σ H D I ⟨r, h, l, q, hl, p⟩ => (ps_raise hc tk (pmk_own F qx gC kC rz hg hdb)).run pins s σ H D I (p r H σ C Ext.refl q hl he)⟩
end
end MM
namespace MM
open PySem L2
section
variable {X : Cx} {G : Glob} {W : WX} {r r1 r2 : Ad} {H H1 H2 : Hp} {h h1 : HM} {l : Loc} {s : St} {K : PySem.W.Frag} {a : Addr} {xs : List Val} {vs : List V} {n k : Nat}
def vAdd (a b : Val) (h : HM) : Res Val := match a, b with
  | .int i, .int j => .ok (.int (i + j)) h
  | .str x, .str y => if x.length + y.length ≤ sizeLine then .ok (.str (x ++ y)) h else .bad
  | .tup xs, .tup ys => if xs.length + ys.length ≤ sizeLine then .ok (.tup (xs ++ ys)) h else .bad
  | .ptup xs, .tup ys => if xs.length + ys.length ≤ sizeLine then .ok (if xs.isEmpty then .tup ys else if ys.isEmpty then .ptup xs else .tup (xs ++ ys)) h else .bad
  | .tup xs, .ptup ys => if xs.length + ys.length ≤ sizeLine then .ok (if xs.isEmpty then .ptup ys else if ys.isEmpty then .tup xs else .tup (xs ++ ys)) h else .bad
  | .ptup xs, .ptup ys => if xs.length + ys.length ≤ sizeLine then .ok (if xs.isEmpty then .ptup ys else if ys.isEmpty then .ptup xs else .tup (xs ++ ys)) h else .bad
  | a, b => match seqL a h, seqL b h with
    | some xs, some ys => if xs.length + ys.length ≤ sizeLine then .ok (.lst (xs ++ ys)) h else .bad
    | _, _ => .bad
theorem VRs.nil_iff (z : VRs G r H xs vs) : xs = [] ↔ vs = [] := by cases z <;> simp
theorem post_cat {Q : VK} {ys : List Val} {ws : List V} (q : Rel G r h H) (z : VRs G r H xs vs) (z' : VRs G r H ys ws) (p : Post G W r H s (VR G) Q (.ok (.lst (xs ++ ys)) h)) : ∀ p, H p = none → Q (.ref p) (upd H p (.lst (vs ++ ws))) := fun a n =>
  p r _ _ (ext_new q n) (q.laid n) (.lst upd_same (q.new n) ((z.append z').ext (ext_new q n)))
theorem om_add : OpM X G (binaryOp .Add) vAdd := by
  intro W pins s σ H r h a b x y v u Q I q za zb rx ry p
  have hl : ∀ xs ys, seqL a h = some xs → seqL b h = some ys → Post G W r H σ (VR G) Q (if xs.length + ys.length ≤ sizeLine then .ok (.lst (xs ++ ys)) h else .bad) → wpAny (model X.prog X.w) X.A (binaryOp .Add v u) (EP X pins σ Q) X.xe s := by
    intro xs ys ea eb p
    obtain ⟨l, vs, rfl, d, z⟩ := seqL_ok q za ea
    obtain ⟨l2, ws, rfl, d2, z2⟩ := seqL_ok q zb eb
    split at p
    · rename_i hz
      exact op_cat pins s σ H _ _ v u Q I rx ry ⟨l, l2, vs, ws, rfl, rfl, d, d2, by rw [← z.length, ← z2.length]; exact hz, post_cat q z z2 p⟩
    · exact p.elim
  have hl2 : Post G W r H σ (VR G) Q (match seqL a h, seqL b h with | some xs, some ys => if xs.length + ys.length ≤ sizeLine then .ok (.lst (xs ++ ys)) h else .bad | _, _ => .bad) → wpAny (model X.prog X.w) X.A (binaryOp .Add v u) (EP X pins σ Q) X.xe s := by
    intro p
    cases ea : seqL a h with
    | none => rw [ea] at p; exact p.elim
    | some xs =>
      cases eb : seqL b h with
      | none => rw [ea, eb] at p; exact p.elim
      | some ys => rw [ea, eb] at p; exact hl xs ys ea eb p
  have ht : ∀ {vx vy : Val} {xs ys : List Val}, VR G r H vx x → VR G r H vy y → tupL vx = some xs → tupL vy = some ys → Post G W r H σ (VR G) Q (if xs.length + ys.length ≤ sizeLine then .ok (if xs.isEmpty then vy else if ys.isEmpty then vx else .tup (xs ++ ys)) h else .bad) → wpAny (model X.prog X.w) X.A (binaryOp .Add v u) (EP X pins σ Q) X.xe s := by
    intro vx vy xs ys zx zy ex ey p
    split at p
    · rename_i hz
      obtain ⟨a, vs, rfl, d, o, z⟩ := tupL_ok zx ex
      obtain ⟨b, ws, rfl, d2, o2, z2⟩ := tupL_ok zy ey
      refine op_catA pins s σ H _ _ v u Q I rx ry ⟨a, b, vs, ws, rfl, rfl, .inl d, .inl d2, by rw [← z.length, ← z2.length]; exact hz, fun e => ?_, fun e1 e => ?_, fun e1 e2 a' n => ?_⟩
      · have h1 := z.nil_iff.mpr e
        subst h1
        exact Post.here q zy p
      · have h1 : xs.isEmpty = false := by have : xs ≠ [] := fun h => e1 (z.nil_iff.mp h); cases xs <;> simp_all
        have h2 := z2.nil_iff.mpr e
        subst h2
        rw [h1] at p
        exact Post.here q zx p
      · have h1 : xs.isEmpty = false := by have : xs ≠ [] := fun h => e1 (z.nil_iff.mp h); cases xs <;> simp_all
        have h2 : ys.isEmpty = false := by have : ys ≠ [] := fun h => e2 (z2.nil_iff.mp h); cases ys <;> simp_all
        rw [h1, h2] at p
        exact p r _ _ (ext_new q n) (q.laid n) (.tup upd_same (q.new n) ((z.append z2).ext (ext_new q n)))
    · exact p.elim
  cases za with
  | @ptup a ob vs xs d dn o z =>
    cases zb with
    | @tup b ws ys d2 o2 z2 => exact ht (.ptup d dn o z) (.tup d2 o2 z2) rfl rfl p
    | @ptup b ob2 ws ys d2 dn2 o2 z2 => exact ht (.ptup d dn o z) (.ptup d2 dn2 o2 z2) rfl rfl p
    | _ => exact hl2 p
  | int i =>
    cases zb with
    | int j => exact op_add pins s σ H _ _ v u Q I rx ry ⟨i, j, rfl, rfl, Post.here q (.int _) p⟩
    | _ => exact hl2 p
  | str i =>
    cases zb with
    | str j =>
      dsimp only [vAdd] at p
      split at p
      · rename_i hz
        exact op_add_str pins s σ H _ _ v u Q I rx ry ⟨i, j, rfl, rfl, hz, Post.here q (.str _) p⟩
      · exact p.elim
    | _ => exact hl2 p
  | @tup a vs xs d o z =>
    cases zb with
    | @tup b ws ys d2 o2 z2 =>
      dsimp only [vAdd] at p
      split at p
      · rename_i hz
        refine op_catA pins s σ H _ _ v u Q I rx ry ⟨a, b, vs, ws, rfl, rfl, .inl (.inl d), .inl (.inl d2), by rw [← z.length, ← z2.length]; exact hz, fun e => ?_, fun _ e => ?_, fun _ _ a' n => ?_⟩
        · have := z.nil_iff.mpr e
          subst this
          exact Post.here q (.tup d2 o2 z2) p
        · have := z2.nil_iff.mpr e
          subst this
          rw [List.append_nil] at p
          exact Post.here q (.tup d o z) p
        · exact p r _ _ (ext_new q n) (q.laid n) (.tup upd_same (q.new n) ((z.append z2).ext (ext_new q n)))
      · exact p.elim
    | @ptup b ob2 ws ys d2 dn2 o2 z2 => exact ht (.tup d o z) (.ptup d2 dn2 o2 z2) rfl rfl p
    | _ => exact hl2 p
  | _ => exact hl2 p
def vSub (a b : Val) (h : HM) : Res Val := match a, b with
  | .int i, .int j => .ok (.int (i - j)) h
  | _, _ => .bad
def vMod (a b : Val) (h : HM) : Res Val := match a, b with
  | .int i, .int j => if 0 < j then .ok (.int (i % j)) h else .bad
  | _, _ => .bad
def vFdiv (a b : Val) (h : HM) : Res Val := match a, b with
  | .int i, .int j => if 0 < j ∧ j < 1073741824 then .ok (.int (i / j)) h else .bad
  | _, _ => .bad
def vMul (a b : Val) (h : HM) : Res Val := match a, b with
  | .int i, .int j => if (-(2 ^ 64) < i ∧ i < 2 ^ 64) ∨ (-(2 ^ 64) < j ∧ j < 2 ^ 64) then .ok (.int (i * j)) h else .bad
  | .str x, .int j => if x.length ≤ 16 ∧ -(2 ^ 63) ≤ j ∧ j ≤ ((1048576 : Nat) : Int) then .ok (.str (Txt.mul x j)) h else .bad
  | a, .int j => match seqL a h with
    | some xs => if -(2 ^ 63) ≤ j ∧ j < 2 ^ 63 ∧ xs.length * j.toNat ≤ sizeLine then .ok (.lst (List.replicate j.toNat xs).flatten) h else .bad
    | none => .bad
  | _, _ => .bad
theorem om_ii {f : Value → Value → Sem Value} {g : VOp} {C : Int → Int → Prop} {o : Int → Int → V} {o' : Int → Int → Val} (ho : OpR X f (rI C o)) (hv : ∀ i j r H, VR G r H (o' i j) (o i j))
    (hg : ∀ a b h, (∃ i j, a = .int i ∧ b = .int j ∧ ((C i j ∧ g a b h = .ok (o' i j) h) ∨ g a b h = .bad)) ∨ g a b h = .bad) : OpM X G f g := by
  intro W pins s σ H r h a b x y v u Q I q za zb rx ry p
  rcases hg a b h with ⟨i, j, rfl, rfl, ⟨hc, e⟩ | e⟩ | e
  · rw [e] at p
    cases za
    cases zb
    exact ho pins s σ H _ _ v u Q I rx ry ⟨i, j, rfl, rfl, hc, Post.here q (hv i j r H) p⟩
  · rw [e] at p; exact p.elim
  · rw [e] at p; exact p.elim
theorem rI_of {f : Value → Value → Sem Value} {o : Int → Int → V} (ho : OpR X f (rI0 o)) : OpR X f (rI (fun _ _ => True) o) := fun pins s σ H x y v u Q I rx ry ⟨i, j, ex, ey, _, q⟩ => ho pins s σ H x y v u Q I rx ry ⟨i, j, ex, ey, q⟩
theorem om_sub : OpM X G (binaryOp .Sub) vSub := om_ii (rI_of op_sub) (o' := fun i j => .int (i - j)) (fun _ _ _ _ => .int _) fun a b h => by
  cases a with
  | int i => cases b with
    | int j => exact .inl ⟨i, j, rfl, rfl, .inl ⟨trivial, rfl⟩⟩
    | _ => exact .inr rfl
  | _ => exact .inr rfl
theorem om_mod : OpM X G (binaryOp .Mod) vMod := om_ii op_mod (o' := fun i j => .int (i % j)) (fun _ _ _ _ => .int _) fun a b h => by
  cases a with
  | int i => cases b with
    | int j =>
      refine .inl ⟨i, j, rfl, rfl, ?_⟩
      by_cases hj : 0 < j
      · exact .inl ⟨hj, if_pos hj⟩
      · exact .inr (if_neg hj)
    | _ => exact .inr rfl
  | _ => exact .inr rfl
theorem om_fdiv : OpM X G (binaryOp .FloorDiv) vFdiv := om_ii op_fdiv (o' := fun i j => .int (i / j)) (fun _ _ _ _ => .int _) fun a b h => by
  cases a with
  | int i => cases b with
    | int j =>
      refine .inl ⟨i, j, rfl, rfl, ?_⟩
      by_cases hj : 0 < j ∧ j < 1073741824
      · exact .inl ⟨hj, if_pos hj⟩
      · exact .inr (if_neg hj)
    | _ => exact .inr rfl
  | _ => exact .inr rfl
theorem om_mul : OpM X G (binaryOp .Mult) vMul := by
  intro W pins s σ H r h a b x y v u Q I q za zb rx ry p
  cases zb with
  | int j =>
    have hl : Post G W r H σ (VR G) Q (match seqL a h with | some xs => if -(2 ^ 63) ≤ j ∧ j < 2 ^ 63 ∧ xs.length * j.toNat ≤ sizeLine then .ok (.lst (List.replicate j.toNat xs).flatten) h else .bad | none => .bad) → wpAny (model X.prog X.w) X.A (binaryOp .Mult v u) (EP X pins σ Q) X.xe s := by
      intro p
      cases ea : seqL a h with
      | none => rw [ea] at p; exact p.elim
      | some xs =>
        rw [ea] at p
        dsimp only at p
        split at p
        · rename_i hz
          obtain ⟨l, vs, rfl, d, z⟩ := seqL_ok q za ea
          refine op_rep pins s σ H _ _ v u Q I rx ry ⟨l, j, vs, rfl, rfl, d, hz.1, hz.2.1, by rw [← z.length]; exact hz.2.2, fun a' n => ?_⟩
          have zz : VRs G r H (List.replicate j.toNat xs).flatten (List.replicate j.toNat vs).flatten := by
            generalize j.toNat = k
            induction k with
            | zero => exact .nil
            | succ k ih => rw [List.replicate_succ, List.replicate_succ, List.flatten_cons, List.flatten_cons]; exact z.append ih
          exact p r _ _ (ext_new q n) (q.laid n) (.lst upd_same (q.new n) (zz.ext (ext_new q n)))
        · exact p.elim
    cases za with
    | int i =>
      dsimp only [vMul] at p
      split at p
      · rename_i hc
        exact op_mul pins s σ H _ _ v u Q I rx ry ⟨i, j, rfl, rfl, hc, Post.here q (.int _) p⟩
      · exact p.elim
    | str i =>
      dsimp only [vMul] at p
      split at p
      · rename_i hc
        obtain ⟨t, rfl⟩ := rx
        obtain ⟨t', rfl⟩ := ry
        exact PySem.W.KXi.mul (n := i.length) rfl hc.1 hc.2.1 hc.2.2 fun t' k _ _ => ⟨.str (Txt.mul i j), H, I.tok _, ⟨_, rfl⟩, Post.here q (.str _) p⟩
      · exact p.elim
    | _ => exact hl p
  | _ => cases za <;> exact p.elim
def vLt (a b : Val) (h : HM) : Res Val := match a, b with
  | .int i, .int j => .ok (.bl (decide (i < j))) h
  | _, _ => .bad
def vLe (a b : Val) (h : HM) : Res Val := match a, b with
  | .int i, .int j => .ok (.bl (decide (i ≤ j))) h
  | _, _ => .bad
def vGt (a b : Val) (h : HM) : Res Val := match a, b with
  | .int i, .int j => .ok (.bl (decide (j < i))) h
  | _, _ => .bad
def vGe (a b : Val) (h : HM) : Res Val := match a, b with
  | .int i, .int j => .ok (.bl (decide (j ≤ i))) h
  | _, _ => .bad
theorem om_le : OpM X G (compareOp .LtE) vLe := om_ii (rI_of op_le) (o' := fun i j => .bl (decide (i ≤ j))) (fun _ _ _ _ => .bl _) fun a b h => by
  cases a with
  | int i => cases b with
    | int j => exact .inl ⟨i, j, rfl, rfl, .inl ⟨trivial, rfl⟩⟩
    | _ => exact .inr rfl
  | _ => exact .inr rfl
theorem om_ge : OpM X G (compareOp .GtE) vGe := om_ii (rI_of op_ge) (o' := fun i j => .bl (decide (j ≤ i))) (fun _ _ _ _ => .bl _) fun a b h => by
  cases a with
  | int i => cases b with
    | int j => exact .inl ⟨i, j, rfl, rfl, .inl ⟨trivial, rfl⟩⟩
    | _ => exact .inr rfl
  | _ => exact .inr rfl
theorem om_lt : OpM X G (compareOp .Lt) vLt := om_ii (rI_of op_lt) (o' := fun i j => .bl (decide (i < j))) (fun _ _ _ _ => .bl _) fun a b h => by
  cases a with
  | int i => cases b with
    | int j => exact .inl ⟨i, j, rfl, rfl, .inl ⟨trivial, rfl⟩⟩
    | _ => exact .inr rfl
  | _ => exact .inr rfl
end
end MM
namespace MM
open PySem L2
mutual
def datF : Val → Option PyData
  | .non => some .none
  | .bl b => some (.bool b)
  | .int i => some (.int i)
  | .str x => some (.str x)
  | .tup xs => (datFs xs).map .tuple
  | .lst xs => (datFs xs).map .list
  | .ptup xs => (datFs xs).map .tuple
  | _ => none
def datFs : List Val → Option (List PyData)
  | [] => some []
  | x :: xs => match datF x, datFs xs with
    | some d, some ds => some (d :: ds)
    | _, _ => none
end
def dat (v : Val) (h : HM) : Option PyData := match v with
  | .ref n => (match h[n]? with
    | some (.lst xs) => (datFs xs).map .list
    | _ => none)
  | v => datF v
section
variable {X : Cx} {G : Glob} {W : WX} {r r1 r2 : Ad} {H H1 H2 : Hp} {h h1 : HM} {l : Loc} {s : St} {K : PySem.W.Frag} {a : Addr} {xs : List Val} {vs : List V} {n k : Nat}
mutual
theorem datF_ok {v : Val} {x : V} {d : PyData} (z : VR G r H v x) (e : datF v = some d) : Dp K H x d := by
  match v, x, z with
  | _, _, .non => cases e; exact .non
  | _, _, .bl b => cases e; exact .bl b
  | _, _, .int i => cases e; exact .int i
  | _, _, .str x => cases e; exact .str x
  | .tup xs, _, .tup dd o q =>
    simp only [datF, Option.map_eq_some_iff] at e
    obtain ⟨ds, e1, rfl⟩ := e
    exact .tup (.inl (.inl dd)) (datFs_ok q e1)
  | .lst xs, _, .lst dd o q =>
    simp only [datF, Option.map_eq_some_iff] at e
    obtain ⟨ds, e1, rfl⟩ := e
    exact .lst (.inl (.inl dd)) (datFs_ok q e1)
  | .ptup xs, _, .ptup dd dn o q =>
    simp only [datF, Option.map_eq_some_iff] at e
    obtain ⟨ds, e1, rfl⟩ := e
    exact .tup (.inl (.inr ⟨_, dd⟩)) (datFs_ok q e1)
  | _, _, .ref _ => cases e
  | _, _, .fn _ => cases e
  | _, _, .ty _ => cases e
  | _, _, .scr _ => cases e
theorem datFs_ok {vs : List Val} {xs : List V} {ds : List PyData} (z : VRs G r H vs xs) (e : datFs vs = some ds) : DpAll K H xs ds := by
  match vs, xs, z with
  | _, _, .nil => cases e; exact .nil
  | v :: vs, _, .cons q t =>
    simp only [datFs] at e
    split at e
    · rename_i d ds' e1 e2
      cases e
      exact .cons (datF_ok q e1) (datFs_ok t e2)
    · cases e
end
theorem dat_ok {v : Val} {x : V} {d : PyData} (q : Rel G r h H) (z : VR G r H v x) (e : dat v h = some d) : Dp K H x d := by
  cases z with
  | ref e0 =>
    simp only [dat] at e
    split at e
    · rename_i ys hx
      simp only [Option.map_eq_some_iff] at e
      obtain ⟨ds, e1, rfl⟩ := e
      obtain ⟨vs, d, zz⟩ := q.lst_at e0 hx
      exact .lst (.inl (.inl d)) (datFs_ok zz e1)
    · cases e
  | non => exact datF_ok (G := G) (r := r) .non e
  | bl b => exact datF_ok (G := G) (r := r) (.bl b) e
  | int b => exact datF_ok (G := G) (r := r) (.int b) e
  | str b => exact datF_ok (G := G) (r := r) (.str b) e
  | tup a b c => exact datF_ok (.tup a b c) e
  | ptup a b c f => exact datF_ok (.ptup a b c f) e
  | lst a b c => exact datF_ok (.lst a b c) e
  | fn b => cases e
  | ty b => cases e
  | scr b => cases e
def vEq (a b : Val) (h : HM) : Res Val := match dat a h, dat b h with
  | some d, some e => if (SeqAt.shaped d && SeqAt.shaped e) = true then .ok (.bl (PyData.eqv d e)) h else .bad
  | _, _ => .bad
def vNe (a b : Val) (h : HM) : Res Val := match dat a h, dat b h with
  | some d, some e => if (SeqAt.shaped d && SeqAt.shaped e) = true then .ok (.bl (!PyData.eqv d e)) h else .bad
  | _, _ => .bad
theorem om_eq (hu : X.A.units + 64 < cLine) : OpM X G (compareOp .Eq) vEq := .of (op_eqD hu) fun W r h H s a b x y Q q za zb p => by
  unfold vEq at p
  split at p
  · rename_i d e ed ee
    split at p
    · rename_i hs
      rw [Bool.and_eq_true] at hs
      exact ⟨d, e, dat_ok q za ed, dat_ok q zb ee, hs.1, hs.2, Post.here q (.bl _) p⟩
    · exact p.elim
  · exact p.elim
theorem om_ne (hu : X.A.units + 64 < cLine) : OpM X G (compareOp .NotEq) vNe := .of (op_neD hu) fun W r h H s a b x y Q q za zb p => by
  unfold vNe at p
  split at p
  · rename_i d e ed ee
    split at p
    · rename_i hs
      rw [Bool.and_eq_true] at hs
      exact ⟨d, e, dat_ok q za ed, dat_ok q zb ee, hs.1, hs.2, Post.here q (.bl _) p⟩
    · exact p.elim
  · exact p.elim
def rInTD (K : PySem.W.Frag) (neg : Bool) : R2 := fun x y H Q => ∃ d ds, Dp K H x d ∧ Dp K H y (.tuple ds) ∧ SeqAt.shaped d = true ∧ SeqAt.shaped (.tuple ds) = true ∧ Q (.bl (neg ^^ ds.any fun z => PyData.eqv z d)) H
theorem op_inTD (hu : X.A.units + 65 < cLine) : OpR X (compareOp .In) (rInTD X.K false) := by
  intro pins s σ H x y v u Q I rx ry h
  obtain ⟨d, ds, hd, he, sd, se, q⟩ := h
  obtain ⟨as, r1⟩ := Dp.reads I d x v hd rx
  obtain ⟨bs, r2⟩ := Dp.reads I (.tuple ds) y u he ry
  exact SeqAt.in_tuple_reads r2 r1 (SeqAt.canLay_of_shaped se) (SeqAt.canLay_of_shaped sd) (PyProof.Rows.room_in_shaped sd hu) ⟨.bl _, H, I, rfl, by simpa using q⟩
theorem op_notInTD (hu : X.A.units + 65 < cLine) : OpR X (compareOp .NotIn) (rInTD X.K true) := by
  intro pins s σ H x y v u Q I rx ry h
  obtain ⟨d, ds, hd, he, sd, se, q⟩ := h
  obtain ⟨as, r1⟩ := Dp.reads I d x v hd rx
  obtain ⟨bs, r2⟩ := Dp.reads I (.tuple ds) y u he ry
  exact SeqAt.notIn_tuple_reads r2 r1 (SeqAt.canLay_of_shaped se) (SeqAt.canLay_of_shaped sd) (PyProof.Rows.room_in_shaped sd hu) ⟨.bl _, H, I, rfl, by simpa using q⟩
def keyOf : Val → Option Key
  | .int i => some (.inl i)
  | .str x => some (.inr x)
  | _ => none
def keysOf : List Val → Option (List Key)
  | [] => some []
  | x :: xs => match keyOf x, keysOf xs with
    | some k, some ks => some (k :: ks)
    | _, _ => none
def tkey : Val → Option (List Key)
  | .tup xs => keysOf xs
  | _ => none
def getK {κ : Type} [DecidableEq κ] (kvs : List (κ × Val)) (k : κ) : Option Val := (kvs.find? fun kv => decide (kv.1 = k)).map (·.2)
/-- what a dict holds at a key: none: no such question -/
def dGet (n : Nat) (y : Val) (h : HM) : Option (Option Val) := match h[n]? with
  | some (.dK kvs) => (keyOf y).map (getK kvs)
  | some (.lK kvs) => (keyOf y).map (getK kvs)
  | some (.dT kvs) => (tkey y).map (getK kvs)
  | some (.lT kvs) => (tkey y).map (getK kvs)
  | _ => none
theorem key_V {y : Val} {v : V} {k : Key} (z : VR G r H y v) (e : keyOf y = some k) : v = kV k := by
  cases z <;> cases e <;> rfl
theorem keys_V {ys : List Val} {vs : List V} {ks : List Key} (z : VRs G r H ys vs) (e : keysOf ys = some ks) : vs = ks.map kV := by
  induction ys generalizing vs ks with
  | nil => cases z; cases e; rfl
  | cons y ys ih =>
    cases z with
    | cons a b =>
      simp only [keysOf] at e
      split at e
      · rename_i k ks' e1 e2
        cases e
        rw [key_V a e1, ih b e2]
        rfl
      · cases e
theorem getK_ok {κ : Type} [DecidableEq κ] {kvs : List (κ × Val)} {kv : List (κ × V)} (q : KR G r H kvs kv) (k : κ) : (∀ v, getK kvs k = some v → ∃ u, valV kv k = some u ∧ VR G r H v u) ∧ (getK kvs k = none → valV kv k = none) := by
  induction q with
  | nil => exact ⟨fun v e => (by cases e), fun _ => rfl⟩
  | cons a b ih =>
    rename_i p p' xs ys
    by_cases e : p.1 = k
    · have e' : p'.1 = k := by rw [← a.1]; exact e
      have h1 : getK (p :: xs) k = some p.2 := by simp [getK, List.find?_cons, e]
      have h2 : valV (p' :: ys) k = some p'.2 := valV_pos e'
      rw [h1, h2]
      exact ⟨fun v ev => (by cases ev; exact ⟨_, rfl, a.2⟩), fun ev => (by cases ev)⟩
    · have e' : ¬ p'.1 = k := by rw [← a.1]; exact e
      have h1 : getK (p :: xs) k = getK xs k := by simp [getK, List.find?_cons, e]
      have h2 : valV (p' :: ys) k = valV ys k := valV_neg e'
      rw [h1, h2]
      exact ih
theorem dGet_ok {y : Val} {v : V} {o : Option Val} (q : Rel G r h H) (e0 : r.ix[n]? = some a) (z : VR G r H y v) (e : dGet n y h = some o) :
    (∀ w, o = some w → ∃ u, DGet H a v (some u) ∧ VR G r H w u) ∧ (o = none → DGet H a v none) := by
  unfold dGet at e
  cases hn : h[n]? with
  | none => rw [hn] at e; cases e
  | some ob =>
    rw [hn] at e
    have hob := q.ob n a ob e0 hn
    cases hob with
    | dK h1 h2 =>
      simp only [Option.map_eq_some_iff] at e
      obtain ⟨k, ek, rfl⟩ := e
      have hv := key_V z ek
      refine ⟨fun w ew => ?_, fun ew => ?_⟩
      · obtain ⟨u, hu, zu⟩ := (getK_ok h2 k).1 w ew
        exact ⟨u, .inl ⟨_, k, .inl h1, hv, hu.symm⟩, zu⟩
      · exact .inl ⟨_, k, .inl h1, hv, ((getK_ok h2 k).2 ew).symm⟩
    | lK h1 h2 =>
      simp only [Option.map_eq_some_iff] at e
      obtain ⟨k, ek, rfl⟩ := e
      have hv := key_V z ek
      refine ⟨fun w ew => ?_, fun ew => ?_⟩
      · obtain ⟨u, hu, zu⟩ := (getK_ok h2 k).1 w ew
        exact ⟨u, .inl ⟨_, k, .inr ⟨_, h1⟩, hv, hu.symm⟩, zu⟩
      · exact .inl ⟨_, k, .inr ⟨_, h1⟩, hv, ((getK_ok h2 k).2 ew).symm⟩
    | dT h1 h2 =>
      simp only [Option.map_eq_some_iff] at e
      obtain ⟨k, ek, rfl⟩ := e
      cases z with
      | tup d o zz =>
        have hv := keys_V zz ek
        subst hv
        refine ⟨fun w ew => ?_, fun ew => ?_⟩
        · obtain ⟨u, hu, zu⟩ := (getK_ok h2 k).1 w ew
          exact ⟨u, .inr ⟨_, k, _, .inl h1, rfl, d, hu.symm⟩, zu⟩
        · exact .inr ⟨_, k, _, .inl h1, rfl, d, ((getK_ok h2 k).2 ew).symm⟩
      | _ => cases ek
    | lT h1 h2 =>
      simp only [Option.map_eq_some_iff] at e
      obtain ⟨k, ek, rfl⟩ := e
      cases z with
      | tup d o zz =>
        have hv := keys_V zz ek
        subst hv
        refine ⟨fun w ew => ?_, fun ew => ?_⟩
        · obtain ⟨u, hu, zu⟩ := (getK_ok h2 k).1 w ew
          exact ⟨u, .inr ⟨_, k, _, .inr ⟨_, h1⟩, rfl, d, hu.symm⟩, zu⟩
        · exact .inr ⟨_, k, _, .inr ⟨_, h1⟩, rfl, d, ((getK_ok h2 k).2 ew).symm⟩
      | _ => cases ek
    | _ => cases e
/-- one sign, or any text, in a text -/
def inStr (x y : Str) : Bool := match x.cps.toList with
  | [c] => decide (c ∈ y.cps.toList)
  | _ => !(Builtin.Str.occurrences y x 0 y.length 1).isEmpty
def anyEq (d : PyData) (ds : List PyData) : Bool := ds.any fun z => PyData.eqv z d
/-- x in y, as a truth -/
def inB (a b : Val) (h : HM) : Option Bool := match a, b with
  | .str x, .str y => some (inStr x y)
  | a, .ref n => (match h[n]? with
    | some (.lst xs) => (match dat a h, datFs xs with
      | some d, some ds => if (SeqAt.shaped d && SeqAt.shaped (.list ds)) = true then some (anyEq d ds) else none
      | _, _ => none)
    | _ => (dGet n a h).map Option.isSome)
  | a, b => match dat a h, dat b h with
    | some d, some (.list ds) => if (SeqAt.shaped d && SeqAt.shaped (.list ds)) = true then some (anyEq d ds) else none
    | some d, some (.tuple ds) => if (SeqAt.shaped d && SeqAt.shaped (.tuple ds)) = true then some (anyEq d ds) else none
    | _, _ => none
def vIn (a b : Val) (h : HM) : Res Val := match inB a b h with
  | some k => .ok (.bl k) h
  | none => .bad
def vNotIn (a b : Val) (h : HM) : Res Val := match inB a b h with
  | some k => .ok (.bl (!k)) h
  | none => .bad
theorem inB_ok (hu : X.A.units + 65 < cLine) {pins : List (Addr × Obj)} {s : Shared} {σ : St} {x y : V} {v u : Value} {Q : VK} {va vb : Val} {k : Bool} (I : Inv X pins σ H s) (q : Rel G r h H) (za : VR G r H va x) (zb : VR G r H vb y) (rx : RelV x v) (ry : RelV y u) (e : inB va vb h = some k) :
    (Q (.bl k) H → wpAny (model X.prog X.w) X.A (compareOp .In v u) (EP X pins σ Q) X.xe s) ∧ (Q (.bl (!k)) H → wpAny (model X.prog X.w) X.A (compareOp .NotIn v u) (EP X pins σ Q) X.xe s) := by
  have gen : ∀ {va vb : Val} {x y : V} {v u : Value}, VR G r H va x → VR G r H vb y → RelV x v → RelV y u → (match dat va h, dat vb h with
    | some d, some (.list ds) => if (SeqAt.shaped d && SeqAt.shaped (.list ds)) = true then some (anyEq d ds) else none
    | some d, some (.tuple ds) => if (SeqAt.shaped d && SeqAt.shaped (.tuple ds)) = true then some (anyEq d ds) else none
    | _, _ => none) = some k → (Q (.bl k) H → wpAny (model X.prog X.w) X.A (compareOp .In v u) (EP X pins σ Q) X.xe s) ∧ (Q (.bl (!k)) H → wpAny (model X.prog X.w) X.A (compareOp .NotIn v u) (EP X pins σ Q) X.xe s) := by
    intro va vb x y v u za zb rx ry e
    split at e
    · rename_i d ds ed ee
      split at e
      · rename_i hs
        rw [Bool.and_eq_true] at hs
        cases e
        exact ⟨fun qq => op_inD hu pins s σ H x y v u Q I rx ry ⟨d, ds, dat_ok q za ed, dat_ok q zb ee, hs.1, hs.2, qq⟩, fun qq => op_notInD hu pins s σ H x y v u Q I rx ry ⟨d, ds, dat_ok q za ed, dat_ok q zb ee, hs.1, hs.2, qq⟩⟩
      · cases e
    · rename_i d ds ed ee
      split at e
      · rename_i hs
        rw [Bool.and_eq_true] at hs
        cases e
        exact ⟨fun qq => op_inTD hu pins s σ H x y v u Q I rx ry ⟨d, ds, dat_ok q za ed, dat_ok q zb ee, hs.1, hs.2, by simpa [anyEq] using qq⟩, fun qq => op_notInTD hu pins s σ H x y v u Q I rx ry ⟨d, ds, dat_ok q za ed, dat_ok q zb ee, hs.1, hs.2, by simpa [anyEq] using qq⟩⟩
      · cases e
    · cases e
  have za0 := za
  cases zb with
  | str y =>
    cases za with
    | str x =>
      have e : some (inStr x y) = some k := e
      cases e
      unfold inStr
      split
      · rename_i c hc
        have hx : x = ⟨#[c]⟩ := by
          cases x with | mk cps => congr 1; apply Array.toList_inj.mp; simpa using hc
        subst hx
        exact ⟨fun qq => op_in_sign pins s σ H _ _ v u Q I rx ry ⟨c, y, rfl, rfl, qq⟩, fun qq => op_notIn_sign pins s σ H _ _ v u Q I rx ry ⟨c, y, rfl, rfl, qq⟩⟩
      · exact ⟨fun qq => op_in_str pins s σ H _ _ v u Q I rx ry ⟨x, y, rfl, rfl, qq⟩, fun qq => op_notIn_str pins s σ H _ _ v u Q I rx ry ⟨x, y, rfl, rfl, qq⟩⟩
    | _ => exact gen za0 (.str y) rx ry e
  | @ref n a e0 =>
    have e : (match h[n]? with
    | some (.lst xs) => (match dat va h, datFs xs with
      | some d, some ds => if (SeqAt.shaped d && SeqAt.shaped (.list ds)) = true then some (anyEq d ds) else none
      | _, _ => none)
    | _ => (dGet n va h).map Option.isSome) = some k := by cases va <;> exact e
    split at e
    · rename_i xs hx
      refine gen za (.ref e0) rx ry ?_
      show (match dat va h, dat (.ref n) h with
        | some d, some (.list ds) => if (SeqAt.shaped d && SeqAt.shaped (.list ds)) = true then some (anyEq d ds) else none
        | some d, some (.tuple ds) => if (SeqAt.shaped d && SeqAt.shaped (.tuple ds)) = true then some (anyEq d ds) else none
        | _, _ => none) = some k
      have ed : dat (.ref n) h = (datFs xs).map .list := by simp only [dat, hx]
      rw [ed]
      revert e
      cases datFs xs with
      | none => cases dat va h <;> exact fun e => by cases e
      | some ds => cases dat va h with
        | none => exact fun e => by cases e
        | some d => exact fun e => e
    · simp only [Option.map_eq_some_iff] at e
      obtain ⟨o, eo, rfl⟩ := e
      obtain ⟨h1, h2⟩ := dGet_ok q e0 za eo
      have hu1 : X.A.units + 1 < cLine := by omega
      have hg : ∃ ov, DGet H a x ov ∧ ov.isSome = o.isSome := by
        cases o with
        | none => exact ⟨none, h2 rfl, rfl⟩
        | some w => obtain ⟨u, g, _⟩ := h1 w rfl; exact ⟨_, g, rfl⟩
      obtain ⟨ov, g, eq⟩ := hg
      obtain rfl : u = Value.ref a := ry
      rw [← eq]
      exact ⟨fun qq => d_in hu1 I g rx fun s3 I3 => ⟨.bl _, H, I3, rfl, qq⟩, fun qq => d_notIn hu1 I g rx fun s3 I3 => ⟨.bl _, H, I3, rfl, qq⟩⟩
  | tup b1 b2 b3 => exact gen za (.tup b1 b2 b3) rx ry (by cases va <;> exact e)
  | ptup b1 b2 b3 b4 => exact gen za (.ptup b1 b2 b3 b4) rx ry (by cases va <;> exact e)
  | lst b1 b2 b3 => exact gen za (.lst b1 b2 b3) rx ry (by cases va <;> exact e)
  | non => exact gen za .non rx ry (by cases va <;> exact e)
  | bl b => exact gen za (.bl b) rx ry (by cases va <;> exact e)
  | int b => exact gen za (.int b) rx ry (by cases va <;> exact e)
  | fn b => exact gen za (.fn b) rx ry (by cases va <;> exact e)
  | ty b => exact gen za (.ty b) rx ry (by cases va <;> exact e)
  | scr b => exact gen za (.scr b) rx ry (by cases va <;> exact e)
theorem om_in (hu : X.A.units + 65 < cLine) : OpM X G (compareOp .In) vIn := by
  intro W pins s σ H r h a b x y v u Q I q za zb rx ry p
  unfold vIn at p
  split at p
  · rename_i k e
    exact (inB_ok hu I q za zb rx ry e).1 (Post.here q (.bl _) p)
  · exact p.elim
theorem om_notIn (hu : X.A.units + 65 < cLine) : OpM X G (compareOp .NotIn) vNotIn := by
  intro W pins s σ H r h a b x y v u Q I q za zb rx ry p
  unfold vNotIn at p
  split at p
  · rename_i k e
    exact (inB_ok hu I q za zb rx ry e).2 (Post.here q (.bl _) p)
  · exact p.elim
/-- is None; is True, is False of a truth -/
def isB (a b : Val) : Option Bool := match a, b with
  | .non, .non => some true
  | _, .non => some false
  | .bl x, .bl y => some (decide (x = y))
  | _, _ => none
def vIs (a b : Val) (h : HM) : Res Val := match isB a b with
  | some k => .ok (.bl k) h
  | none => .bad
def vIsNot (a b : Val) (h : HM) : Res Val := match isB a b with
  | some k => .ok (.bl (!k)) h
  | none => .bad
theorem isN_V {v : Val} {x : V} (z : VR G r H v x) : isB v .non = some (decide (x = .non)) := by cases z <;> rfl
theorem om_is : OpM X G (compareOp .Is) vIs := by
  intro W pins s σ H r h a b x y v u Q I q za zb rx ry p
  cases zb with
  | non =>
    unfold vIs at p
    rw [isN_V za] at p
    exact op_isN pins s σ H _ _ v u Q I rx ry ⟨rfl, Post.here q (.bl _) p⟩
  | bl k =>
    cases za with
    | bl j => exact op_isBl pins s σ H _ _ v u Q I rx ry ⟨j, k, rfl, rfl, Post.here q (.bl _) p⟩
    | _ => exact p.elim
  | _ => cases za <;> exact p.elim
theorem om_isNot : OpM X G (compareOp .IsNot) vIsNot := by
  intro W pins s σ H r h a b x y v u Q I q za zb rx ry p
  cases zb with
  | non =>
    unfold vIsNot at p
    rw [isN_V za] at p
    exact op_notN pins s σ H _ _ v u Q I rx ry ⟨rfl, Post.here q (.bl _) p⟩
  | bl k =>
    cases za with
    | bl j => exact op_notBl pins s σ H _ _ v u Q I rx ry ⟨j, k, rfl, rfl, Post.here q (.bl _) p⟩
    | _ => exact p.elim
  | _ => cases za <;> exact p.elim
end
end MM
namespace MM
open PySem L2
section
variable {X : Cx} {G : Glob} {W : WX} {r r1 r2 : Ad} {H H1 H2 : Hp} {h h1 : HM} {l : Loc} {s : St} {K : PySem.W.Frag} {a : Addr} {xs : List Val} {vs : List V} {n k : Nat}
def ofO (o : Option Val) (h : HM) : Res Val := match o with
  | some v => .ok v h
  | none => .bad
def vIx (a b : Val) (h : HM) : Res Val := match a, b with
  | .tup xs, .int i => ofO (atI xs i) h
  | .ptup xs, .int i => ofO (atI xs i) h
  | .lst xs, .int i => ofO (atI xs i) h
  | .str x, .int i => if x.length ≤ sizeLine then ofO ((atI x.cps.toList i).map fun c => .str ⟨#[c]⟩) h else .bad
  | .scr ns, .int i => ofO ((atI ns i).map .int) h
  | .ref n, b => match h[n]?, b with
    | some (.lst xs), .int i => ofO (atI xs i) h
    | _, _ => (match dGet n b h with
      | some (some v) => .ok v h
      | _ => .bad)
  | _, _ => .bad
/-- what a subscript is, by values -/
def IxM (X : Cx) (G : Glob) (g : VOp) : Prop :=
  ∀ (W : WX) (value slice : Expr) (pins : List (Addr × Obj)) (s : Shared) (σ : St) (H : Hp) (r : Ad) (h : HM) (a b : Val) (x y : V) (v u : Value) (Q : VK), Inv X pins σ H s → Rel G r h H → VR G r H a x → VR G r H b y → RelV x v → RelV y u →
    Post G W r H σ (VR G) Q (g a b h) → subscripted slice false v u = operate [v, u] (getItem v u) → wpAny (model X.prog X.w) X.A (PyProof.Rows.subscriptTail value slice v u) (EP X pins σ Q) X.xe s
theorem atI_ok (z : VRs G r H xs vs) {i : Int} {v : Val} (e : atI xs i = some v) : ∃ u, atI vs i = some u ∧ VR G r H v u := by
  unfold L2.atI at e ⊢
  rw [← z.length]
  cases hj : L2.ixN xs.length i with
  | none => rw [hj] at e; cases e
  | some j =>
    rw [hj] at e
    obtain ⟨u, hu, zu⟩ := z.get e
    exact ⟨u, hu, zu⟩
theorem om_ix (hu : X.A.units + 1 < cLine) (hK : G.K = X.K := by rfl) : IxM X G vIx := by
  intro W value slice pins s σ H r h a b x y v u Q I q za zb rx ry p hs
  cases za with
  | @tup a vs xs d o z =>
    cases zb with
    | int i =>
      dsimp only [vIx] at p
      cases e : atI xs i with
      | none => rw [e] at p; exact p.elim
      | some w =>
        rw [e] at p
        obtain ⟨uu, hu, zu⟩ := atI_ok z e
        exact ix_tup value slice pins s σ H _ _ v u Q I rx ry ⟨a, vs, i, uu, rfl, rfl, .inl (.inl d), hu, Post.here q zu p⟩ hs
    | _ => exact p.elim
  | @ptup a ob vs xs d dn o z =>
    cases zb with
    | int i =>
      dsimp only [vIx] at p
      cases e : atI xs i with
      | none => rw [e] at p; exact p.elim
      | some w =>
        rw [e] at p
        obtain ⟨uu, hu, zu⟩ := atI_ok z e
        exact ix_tup value slice pins s σ H _ _ v u Q I rx ry ⟨a, vs, i, uu, rfl, rfl, .inl (.inr ⟨_, d⟩), hu, Post.here q zu p⟩ hs
    | _ => exact p.elim
  | @lst a vs xs d o z =>
    cases zb with
    | int i =>
      dsimp only [vIx] at p
      cases e : atI xs i with
      | none => rw [e] at p; exact p.elim
      | some w =>
        rw [e] at p
        obtain ⟨uu, hu, zu⟩ := atI_ok z e
        exact ix_list value slice pins s σ H _ _ v u Q I rx ry ⟨a, vs, i, uu, rfl, rfl, .inl (.inl d), hu, Post.here q zu p⟩ hs
    | _ => exact p.elim
  | str x =>
    cases zb with
    | int i =>
      dsimp only [vIx] at p
      split at p
      · rename_i hz
        cases e : atI x.cps.toList i with
        | none => rw [e] at p; exact p.elim
        | some c =>
          rw [e] at p
          exact ix_str value slice pins s σ H _ _ v u Q I rx ry ⟨x, i, c, rfl, rfl, hz, e, Post.here q (.str _) p⟩ hs
      · exact p.elim
    | _ => exact p.elim
  | @ref n a e0 =>
    dsimp only [vIx] at p
    split at p
    · rename_i xs i hx
      cases zb with
      | int i =>
        cases e : atI xs i with
        | none => rw [e] at p; exact p.elim
        | some w =>
          rw [e] at p
          obtain ⟨vs, d, z⟩ := q.lst_at e0 hx
          obtain ⟨uu, hu, zu⟩ := atI_ok z e
          exact ix_list value slice pins s σ H _ _ v u Q I rx ry ⟨a, vs, i, uu, rfl, rfl, .inl (.inl d), hu, Post.here q zu p⟩ hs
    · split at p
      · rename_i w ew
        obtain ⟨uu, g, zu⟩ := (dGet_ok q e0 zb ew).1 w rfl
        obtain rfl : v = Value.ref a := rx
        refine PyProof.Rows.tail_any (dict_typeIs I g) PySem.F.slot_dict_getitem.lookup (d_getItem hu I g ry fun w' s' I' rw' => ⟨uu, H, I', rw', Post.here q zu p⟩) hs
      · exact p.elim
  | @scr a ns z =>
    cases zb with
    | int i =>
      dsimp only [vIx] at p
      cases e : atI ns i with
      | none => rw [e] at p; exact p.elim
      | some w =>
        rw [e] at p
        have e2 : atI (ns.map V.int) i = some (.int w) := by
          unfold L2.atI at e ⊢
          rw [List.length_map]
          cases hj : L2.ixN ns.length i with
          | none => rw [hj] at e; cases e
          | some j => rw [hj] at e; simp only [Option.bind_some] at e ⊢; rw [List.getElem?_map, e]; rfl
        exact ix_list value slice pins s σ H _ _ v u Q I rx ry ⟨a, _, i, _, rfl, rfl, hK ▸ z.sq, e2, Post.here q (.int _) p⟩ hs
    | _ => exact p.elim
  | _ => exact p.elim
variable {e f i : Expr} {me mf mi : EM} {pos p2 : Pos}
theorem me_ix {g : VOp} (o : IxM X G g) (he : ME X G W e me) (hi : ME X G W i mi) (hs : PlainIx i := by intro _ _; rfl) : ME X G W (.Subscript e i pos) (e2 g me mi) :=
  ⟨fun pins s σ H Q I ⟨r, h, l, q, hl, p⟩ => PyProof.Rows.Subscript_ (both he hi I q hl p fun v u s2 x y H2 r2 h2 va vb I2 ex q2 za zb rx ry p2 => o W e i pins s2 σ H2 r2 h2 va vb x y v u Q I2 q2 za zb rx ry p2 (hs _ _))⟩
abbrev OM := Loc → HM → Res (Option Int)
def oNone : OM := fun _ h => .ok none h
def oSome (m : EM) : OM := fun l h => (m l h).bind fun v h1 => match v with
  | .int i => .ok (some i) h1
  | _ => .bad
def tO (G : Glob) (W : WX) (m : OM) : TO := fun s H Q => ∃ r h l, Rel G r h H ∧ LR G r H l s ∧ Post G W r H s REq Q (m l h)
abbrev MO (X : Cx) (G : Glob) (W : WX) (e : Option Expr) (m : OM) : Prop := PO X e (tO G W m)
theorem mo_none : MO X G W none oNone := ⟨fun pins s σ H Q I ⟨r, h, l, q, hl, p⟩ => po_none.run pins s σ H Q I (Post.here (R := REq) q rfl p)⟩
theorem mo_some (he : ME X G W e me) : MO X G W (some e) (oSome me) := ⟨fun pins s σ H Q I ⟨r, h, l, q, hl, p⟩ => (po_some he).run pins s σ H Q I ⟨r, h, l, q, hl, (Post.bind p).imp fun x H1 ⟨r1, h1, w1, e1, q1, z1, p1⟩ => by
  cases z1 with
  | int i => exact ⟨i, rfl, Post.here (R := REq) q1 rfl p1⟩
  | _ => exact p1.elim⟩⟩
def cutL {α : Type} (xs : List α) (lo hi : Option Int) : List α := (xs.drop (HT.sIx xs.length 0 lo)).take (HT.sIx xs.length xs.length hi - HT.sIx xs.length 0 lo)
def vSl (a : Val) (lo hi : Option Int) (h : HM) : Res Val := match a with
  | .tup xs => .ok (.tup (cutL xs lo hi)) h
  | .ptup xs => .ok (if HT.sIx xs.length 0 lo = 0 ∧ HT.sIx xs.length xs.length hi = xs.length then .ptup xs else .tup (cutL xs lo hi)) h
  | .str x => if x.length ≤ sizeLine then .ok (.str (cutS x lo hi)) h else .bad
  | a => match seqL a h with
    | some xs => .ok (.lst (cutL xs lo hi)) h
    | none => .bad
def eSl (m : EM) (lo hi : OM) : EM := fun l h => (m l h).bind fun x h1 => (lo l h1).bind fun a h2 => (hi l h2).bind fun b h3 => vSl x a b h3
theorem cut_ok (z : VRs G r H xs vs) (lo hi : Option Int) : VRs G r H (cutL xs lo hi) (cutV vs lo hi) := by
  unfold cutL L2.cutV
  rw [z.length]
  exact (z.drop _).take _
theorem cut_whole {xs : List Val} {lo hi : Option Int} (hw : HT.sIx xs.length 0 lo = 0 ∧ HT.sIx xs.length xs.length hi = xs.length) : cutL xs lo hi = xs := by
  unfold cutL
  rw [hw.1, hw.2]
  simp
theorem mslice {o : Option Expr} {o' : Option Expr} {lo hi : OM} (he : ME X G W e me) (hlo : MO X G W o lo) (hhi : MO X G W o' hi) : ME X G W (.Subscript e (.Slice o o' none p2) pos) (eSl me lo hi) := by
  refine ⟨fun pins s σ H Q I ⟨r, h, l, q, hl, p⟩ => ?_⟩
  refine (pe_slice (r := fun x a b H Q => ∃ r h v, Rel G r h H ∧ VR G r H v x ∧ Post G W r H σ (VR G) Q (vSl v a b h)) (fun pins s σ' H x v vl vu lo hi sl Q I rx hs pl pu ⟨r, h, w, q, z, p⟩ => ?_) he hlo hhi).run pins s σ H Q I ⟨r, h, l, q, hl, (Post.bind p).imp fun x H1 ⟨r1, h1, w1, e1, q1, z1, p1⟩ => ⟨r1, h1, l, q1, hl.ext e1, (Post.bind p1).imp fun a H2 ⟨r2, h2, w2, e2, q2, z2, p2⟩ => ⟨r2, h2, l, q2, (hl.ext e1).ext e2, (Post.bind p2).imp fun b H3 ⟨r3, h3, w3, e3, q3, z3, p3⟩ => ?_⟩⟩⟩
  · have gen : ∀ xs, seqL w h = some xs → (seqL w h = some xs → Post G W r H σ (VR G) Q (.ok (.lst (cutL xs lo hi)) h)) → ∃ T id, typeLookup (.type T) "__getitem__" = pure (some (.builtin id)) ∧ s.TypeIs v T ∧ wpAny (model X.prog X.w) X.A (getItem v (.ref sl)) (EP X pins σ' Q) X.xe s := by
      intro xs e p
      obtain ⟨a, vs, rfl, d, zz⟩ := seqL_ok q z e
      exact sl_list pins s σ' H _ v vl vu lo hi sl Q I rx hs pl pu ⟨a, vs, rfl, .inl (.inl d), fun a' n => p e r _ _ (ext_new q n) (q.laid n) (.lst upd_same (q.new n) ((cut_ok zz lo hi).ext (ext_new q n)))⟩
    cases z with
    | @tup a vs xs d o z =>
      refine sl_tupA pins s σ' H _ v vl vu lo hi sl Q I rx hs pl pu ⟨a, vs, rfl, .inl (.inl d), fun hw => ?_, fun hw a' n => ?_⟩
      · have p : Post G W r H σ (VR G) Q (.ok (.tup (cutL xs lo hi)) h) := p
        rw [cut_whole (by rw [z.length]; exact hw)] at p
        exact Post.here q (.tup d o z) p
      · exact p r _ _ (ext_new q n) (q.laid n) (.tup upd_same (q.new n) ((cut_ok z lo hi).ext (ext_new q n)))
    | @ptup a ob vs xs d dn o z =>
      have p : Post G W r H σ (VR G) Q (.ok (if HT.sIx xs.length 0 lo = 0 ∧ HT.sIx xs.length xs.length hi = xs.length then .ptup xs else .tup (cutL xs lo hi)) h) := p
      refine sl_tupA pins s σ' H _ v vl vu lo hi sl Q I rx hs pl pu ⟨a, vs, rfl, .inl (.inr ⟨_, d⟩), fun hw => ?_, fun hw a' n => ?_⟩
      · rw [if_pos (by rw [z.length]; exact hw)] at p
        exact Post.here q (.ptup d dn o z) p
      · rw [if_neg (by rw [z.length]; exact hw)] at p
        exact p r _ _ (ext_new q n) (q.laid n) (.tup upd_same (q.new n) ((cut_ok z lo hi).ext (ext_new q n)))
    | str x =>
      dsimp only [vSl] at p
      split at p
      · rename_i hz
        exact sl_str pins s σ' H _ v vl vu lo hi sl Q I rx hs pl pu ⟨x, rfl, hz, Post.here q (.str _) p⟩
      · exact p.elim
    | @lst a vs xs d o z => exact gen xs rfl fun _ => p
    | @ref n a e0 =>
      cases e : seqL (.ref n) h with
      | none =>
        have p : Post G W r H σ (VR G) Q (match seqL (.ref n) h with | some xs => .ok (.lst (cutL xs lo hi)) h | none => .bad) := p
        rw [e] at p; exact p.elim
      | some xs =>
        have p : Post G W r H σ (VR G) Q (match seqL (.ref n) h with | some xs => .ok (.lst (cutL xs lo hi)) h | none => .bad) := p
        rw [e] at p
        exact gen xs e fun _ => p
    | _ => exact p.elim
  · cases z2
    cases z3
    exact ⟨r3, h3, w1, q3, (z1.ext e2).ext e3, p3⟩
def eChM (g g' : VOp) (a b c : EM) : EM := fun l h => (a l h).bind fun x h1 => (b l h1).bind fun y h2 => (g x y h2).bind fun z h3 => (toB z h3).bind fun k h4 => if k = true then (c l h4).bind fun w h5 => g' y w h5 else .ok (.bl false) h4
variable {c : Expr} {mc : EM}
theorem me_chain {op op' : CmpOp} {g g' : VOp} (ho : OpM X G (compareOp op) g) (ho' : OpM X G (compareOp op') g') (ha : ME X G W e me) (hb : ME X G W f mf) (hc : ME X G W c mc)
    (hm : lastMarks [op, op'] [f, c] = false := by with_unfolding_all rfl) : ME X G W (.Compare e [op, op'] [f, c] pos) (eChM g g' me mf mc) := by
  refine ⟨fun pins s σ H Q I ⟨r, h, l, q, hl, p⟩ => ?_⟩
  refine PyProof.Rows.Compare_chain (thn (ha.run pins s σ H _ I ⟨r, h, l, q, hl, Post.bind p⟩) fun v s1 ⟨x, H1, I1, rx, ⟨r1, h1, va, e1, q1, z1, p1⟩⟩ => PyProof.Rows.chain_link (thn (hb.run pins s1 σ H1 _ I1 ⟨r1, h1, l, q1, hl.ext e1, Post.bind p1⟩) fun u s2 ⟨y, H2, I2, ry, ⟨r2, h2, vb, e2, q2, z2, p2⟩⟩ =>
    thn (ho W pins s2 σ H2 r2 h2 va vb x y v u _ I2 q2 (z1.ext e2) z2 rx ry (Post.bind p2)) fun d s3 ⟨z, H3, I3, rz, ⟨r3, h3, vz, e3, q3, z3, p3⟩⟩ => ?_)) hm
  cases z3 with
  | bl k =>
    cases rz
    refine wpAny_truthy_bool ?_
    simp only [toB, Res.bind_ok] at p3
    cases k with
    | false => exact PyProof.Rows.ite_ff ⟨.bl false, H3, I3, rfl, Post.here q3 (.bl _) p3⟩
    | true => exact PyProof.Rows.ite_tt (PyProof.Rows.chain_last (thn (hc.run pins s3 σ H3 _ I3 ⟨r3, h3, l, q3, ((hl.ext e1).ext e2).ext e3, Post.bind p3⟩) fun w' s4 ⟨z', H4, I4, r4, ⟨r4', h4, vw, e4, q4, z4, p4⟩⟩ =>
        ho' W pins s4 σ H4 r4' h4 vb vw y z' u w' Q I4 q4 ((z2.ext e3).ext e4) z4 ry r4 p4))
  | _ => exact p3.elim
/-- a built-in called with values -/
abbrev BOp := List Val → HM → Res Val
def CallM (X : Cx) (G : Glob) (f : Value) (g : BOp) : Prop :=
  ∀ (W : WX) (σ : St), CallR X f fun vs H Q => ∃ r h xs, Rel G r h H ∧ VRs G r H xs vs ∧ Post G W r H σ (VR G) Q (g xs h)
def eBi (g : BOp) (m : AM) : EM := fun l h => (m l h).bind g
variable {id T : String} {g : BOp} {x : Str} {p : Pos} {es : List Expr} {ma : AM}
theorem me_bi (hc : CallM X G (.builtin id) g) (hg : Gl X x) (hm : X.mg x = none) (hv : bootBuiltins x = some (.builtin id)) (ha : MA X G W (e :: es) ma) (hn : x ≠ "__name__" := by decide) (hdb : (x == ("__debug__" : Str)) = false := by decide)
    (he : starEach (e :: es) X.env = (false, eval e X.env) :: starEach es X.env := by rfl) (hpl : (backTo pos (starEach es X.env)).any (·.1) = false := by rfl) : ME X G W (.Call (.Name x p) (e :: es) [] pos) (eBi g ma) := by
  refine ⟨fun pins s σ H Q I ⟨r, h, l, q, hl, pp⟩ => (pe_callB (hc W σ) hg hm hv ha hn hdb he hpl).run pins s σ H Q I ⟨r, h, l, q, hl, (Post.bind pp).imp fun vs H1 ⟨r1, h1, w1, e1, q1, z1, p1⟩ => ⟨r1, h1, w1, q1, z1, p1⟩⟩⟩
theorem me_biT (hc : CallM X G (.type T) g) (hg : Gl X x) (hm : X.mg x = none) (hv : bootBuiltins x = some (.type T)) (ha : MA X G W (e :: es) ma) (hn : x ≠ "__name__" := by decide) (hdb : (x == ("__debug__" : Str)) = false := by decide)
    (he : starEach (e :: es) X.env = (false, eval e X.env) :: starEach es X.env := by rfl) (hpl : (backTo pos (starEach es X.env)).any (·.1) = false := by rfl) : ME X G W (.Call (.Name x p) (e :: es) [] pos) (eBi g ma) := by
  refine ⟨fun pins s σ H Q I ⟨r, h, l, q, hl, pp⟩ => (pe_callTy (hc W σ) hg hm hv ha hn hdb he hpl).run pins s σ H Q I ⟨r, h, l, q, hl, (Post.bind pp).imp fun vs H1 ⟨r1, h1, w1, e1, q1, z1, p1⟩ => ⟨r1, h1, w1, q1, z1, p1⟩⟩⟩
theorem CallM.of {v : Value} {g : BOp} {R : List V → Hp → VK → Prop} (cr : CallR X v R) (i : ∀ W σ r h H xs vs Q, Rel G r h H → VRs G r H xs vs → Post G W r H σ (VR G) Q (g xs h) → R vs H Q) : CallM X G v g :=
  fun W σ0 pins s σ H vs us Q I rv ⟨r, h, xs, q, z, p⟩ => cr pins s σ H vs us Q I rv (i W σ0 r h H xs vs Q q z p)
/-- the name of a built-in type -/
theorem me_ty {T : String} (hg : Gl X x) (hm : X.mg x = none) (hv : bootBuiltins x = some (.type T)) (hn : x ≠ "__name__" := by decide) (hdb : (x == ("__debug__" : Str)) = false := by decide) : ME X G W (.Name x pos) (eC (.ty T)) :=
  me_of (pe_bltn (v := .ty T) hg hm hv rfl hn hdb) fun r h l s H Q q hl p => Post.here q (.ty _) p
def lenN (v : Val) (h : HM) : Option Nat := match v with
  | .str x => if x.length ≤ sizeLine then some x.length else none
  | .tup xs => some xs.length
  | .ptup xs => some xs.length
  | .lst xs => some xs.length
  | .scr ns => some ns.length
  | .ref n => (match h[n]? with
    | some (.lst xs) => some xs.length
    | some (.dK kvs) => some kvs.length
    | some (.dT kvs) => some kvs.length
    | _ => none)
  | _ => none
def bLen : BOp := fun xs h => match xs with
  | [v] => (match lenN v h with
    | some n => .ok (.int n) h
    | none => .bad)
  | _ => .bad
theorem CallR.or {f : Value} {R R' : List V → Hp → VK → Prop} (a : CallR X f R) (b : CallR X f R') : CallR X f fun vs H Q => R vs H Q ∨ R' vs H Q := by
  intro pins s σ H xs us Q I r h
  rcases h with h | h
  · exact a pins s σ H xs us Q I r h
  · exact b pins s σ H xs us Q I r h
theorem cm_len (hK : G.K = X.K := by rfl) : CallM X G (.builtin "len") bLen := .of (CallR.or call_len (CallR.or call_lenD call_len_dT)) fun W σ r h H xs vs Q q z p => by
  unfold bLen at p
  split at p
  · rename_i v
    split at p
    · rename_i n e
      cases z with
      | cons z1 z2 =>
        cases z2
        cases z1 with
        | str x =>
          simp only [lenN] at e
          split at e
          · rename_i hz; cases e; exact .inl ⟨_, _, rfl, ⟨hz, rfl⟩, Post.here q (.int _) p⟩
          · cases e
        | tup d o zz => cases e; exact .inl ⟨_, _, rfl, .inr ⟨_, .inl (.inl d), rfl⟩, by rw [← zz.length]; exact Post.here q (.int _) p⟩
        | ptup d dn o zz => cases e; exact .inl ⟨_, _, rfl, .inr ⟨_, .inl (.inr ⟨_, d⟩), rfl⟩, by rw [← zz.length]; exact Post.here q (.int _) p⟩
        | lst d o zz => cases e; exact .inl ⟨_, _, rfl, .inl ⟨_, .inl (.inl d), rfl⟩, by rw [← zz.length]; exact Post.here q (.int _) p⟩
        | @scr a ns zz => cases e; exact .inl ⟨_, _, rfl, .inl ⟨_, hK ▸ zz.sq, by simp⟩, Post.here q (.int _) p⟩
        | ref e0 =>
          obtain ⟨o, ho, ob⟩ := q.at_ e0
          simp only [lenN, ho] at e
          cases ob with
          | lst h1 h2 => cases e; exact .inl ⟨_, _, rfl, .inl ⟨_, .inl (.inl h1), rfl⟩, by rw [← h2.length]; exact Post.here q (.int _) p⟩
          | dK h1 h2 => cases e; exact .inr (.inl ⟨_, _, rfl, h1, by rw [← Paired.length h2]; exact Post.here q (.int _) p⟩)
          | dT h1 h2 => cases e; exact .inr (.inr ⟨_, _, rfl, h1, by rw [← Paired.length h2]; exact Post.here q (.int _) p⟩)
          | _ => cases e
        | _ => cases e
    · exact p.elim
  · exact p.elim
def boolsOf : List Val → Option (List Bool)
  | [] => some []
  | x :: xs => match x, boolsOf xs with
    | .bl b, some bs => some (b :: bs)
    | _, _ => none
theorem bools_ok {bs : List Bool} (z : VRs G r H xs vs) (e : boolsOf xs = some bs) : vs = bs.map V.bl := by
  induction xs generalizing vs bs with
  | nil => cases z; cases e; rfl
  | cons x xs ih =>
    cases z with
    | cons a b =>
      simp only [boolsOf] at e
      split at e
      · rename_i b1 bs' e2
        cases e
        cases a
        rw [ih b e2]
        rfl
      · cases e
def bAll : BOp := fun xs h => match xs with
  | [v] => (match (seqL v h).bind boolsOf with
    | some bs => .ok (.bl (bs.all _root_.id)) h
    | none => .bad)
  | _ => .bad
def bAny : BOp := fun xs h => match xs with
  | [v] => (match (seqL v h).bind boolsOf with
    | some bs => .ok (.bl (bs.any _root_.id)) h
    | none => .bad)
  | _ => .bad
theorem bools_seq {v : Val} {x : V} {bs : List Bool} (q : Rel G r h H) (z : VR G r H v x) (e : (seqL v h).bind boolsOf = some bs) : ∃ a, x = .ref a ∧ SqL K H a (bs.map V.bl) := by
  cases es : seqL v h with
  | none => rw [es] at e; cases e
  | some ys =>
    rw [es] at e
    obtain ⟨a, vs, rfl, d, zz⟩ := seqL_ok q z es
    have := bools_ok zz e
    subst this
    exact ⟨a, rfl, .inl (.inl d)⟩
theorem cm_all (hc : X.calm = true) : CallM X G (.builtin "all") bAll := .of (cr_all hc) fun W σ r h H xs vs Q q z p => by
  unfold bAll at p
  split at p
  · split at p
    · rename_i bs e
      cases z with
      | cons z1 z2 =>
        cases z2
        obtain ⟨a, rfl, d⟩ := bools_seq (K := X.K) q z1 e
        exact ⟨a, bs, rfl, d, Post.here q (.bl _) p⟩
    · exact p.elim
  · exact p.elim
theorem cm_any (hc : X.calm = true) : CallM X G (.builtin "any") bAny := .of (cr_any hc) fun W σ r h H xs vs Q q z p => by
  unfold bAny at p
  split at p
  · split at p
    · rename_i bs e
      cases z with
      | cons z1 z2 =>
        cases z2
        obtain ⟨a, rfl, d⟩ := bools_seq (K := X.K) q z1 e
        exact ⟨a, bs, rfl, d, Post.here q (.bl _) p⟩
    · exact p.elim
  · exact p.elim
def tyN (v : Val) (h : HM) : Option String := match v with
  | .non => some "NoneType"
  | .bl _ => some "bool"
  | .int _ => some "int"
  | .str _ => some "str"
  | .tup _ => some "tuple"
  | .ptup _ => some "tuple"
  | .lst _ => some "list"
  | .ref n => (match h[n]? with
    | some (.lst _) => some "list"
    | some (.dK _) => some "dict"
    | some (.dT _) => some "dict"
    | _ => none)
  | _ => none
def bIsi : BOp := fun xs h => match xs with
  | [v, .ty u] => (match tyN v h with
    | some t => (match kitB t u with
      | some b => .ok (.bl b) h
      | none => .bad)
    | none => .bad)
  | [v, .tup [.ty u, .ty w]] => (match tyN v h with
    | some t => (match kitB t u, kitB t w with
      | some b, some b' => .ok (.bl (b || b')) h
      | _, _ => .bad)
    | none => .bad)
  | _ => .bad
theorem tyN_ok {v : Val} {x : V} {t : String} (q : Rel G r h H) (z : VR G r H v x) (e : tyN v h = some t) : TyX K H x (.type t) := by
  cases z with
  | ref e0 =>
    obtain ⟨o, ho, ob⟩ := q.at_ e0
    simp only [tyN, ho] at e
    cases ob with
    | lst h1 h2 => cases e; exact .base (.lst h1)
    | dK h1 h2 => cases e; exact .base (.dK h1)
    | dT h1 h2 => cases e; exact .base (.dT h1)
    | _ => cases e
  | non => cases e; exact .base .non
  | bl b => cases e; exact .base (.bl b)
  | int b => cases e; exact .base (.int b)
  | str b => cases e; exact .base (.str b)
  | tup d b c => cases e; exact .base (.tup d)
  | lst d b c => cases e; exact .base (.lst d)
  | ptup d b c f => cases e; exact .fTuple d
  | fn b => cases e
  | ty b => cases e
  | scr b => cases e
theorem cm_isi : CallM X G (.builtin "isinstance") bIsi := .of (CallR.or call_isi call_isiT) fun W σ r h H xs vs Q q z p => by
  unfold bIsi at p
  split at p
  · rename_i v u
    split at p
    · rename_i t et
      split at p
      · rename_i b eb
        cases z with
        | cons z1 z2 => cases z2 with | cons z2 z3 => cases z3; cases z2; exact .inl ⟨_, _, .type t, .type u, b, rfl, .ty u, tyN_ok q z1 et, kit_ty eb, Post.here q (.bl _) p⟩
      · exact p.elim
    · exact p.elim
  · rename_i v u w
    split at p
    · rename_i t et
      split at p
      · rename_i b b' eb eb'
        cases z with
        | cons z1 z2 => cases z2 with
          | cons z2 z3 =>
            cases z3
            cases z2 with
            | tup d o zz =>
              cases zz with
              | cons y1 y2 => cases y2 with
                | cons y2 y3 =>
                  cases y3
                  cases y1
                  cases y2
                  refine .inr ⟨_, _, _, .type t, [.type u, .type w], b || b', rfl, d, .cons (.ty u) (.cons (.ty w) .nil), tyN_ok q z1 et, ?_, Post.here q (.bl _) p⟩
                  refine kitAny_cons (kit_ty eb) (fun hb => ?_) fun hb => by rw [hb]; rfl
                  rw [hb]
                  exact kitAny_cons (kit_ty eb') (fun hb' => by rw [hb']; exact kitAny_nil) fun hb' => by rw [hb']; rfl
      · exact p.elim
    · exact p.elim
  · exact p.elim
end
end MM
namespace MM
open PySem L2
section
variable {X : Cx} {G : Glob} {W : WX} {r r1 r2 : Ad} {H H1 H2 : Hp} {h h1 : HM} {l : Loc} {s : St} {K : PySem.W.Frag} {a : Addr} {xs : List Val} {vs : List V} {n k : Nat}
inductive Kd where | str | list
  deriving DecidableEq
def Kd.name : Kd → String
  | .str => "str"
  | .list => "list"
def isKd (T : Kd) (v : Val) (h : HM) : Bool := match T, v with
  | .str, .str _ => true
  | .list, v => (seqL v h).isSome
  | _, _ => false
theorem isKd_ok {T : Kd} {v : Val} {x : V} (q : Rel G r h H) (z : VR G r H v x) (e : isKd T v h = true) : tyV K T.name x H := by
  cases T with
  | str => cases z with
    | str x => rfl
    | _ => cases e
  | list =>
    have e : (seqL v h).isSome = true := by cases v <;> exact e
    obtain ⟨xs, ex⟩ := Option.isSome_iff_exists.mp e
    obtain ⟨a, vs, rfl, d, zz⟩ := seqL_ok q z ex
    exact .inl ⟨rfl, vs, .inl (.inl d)⟩
abbrev MOp := Val → List Val → HM → Res Val
def MtdM (X : Cx) (G : Glob) (id : String) (g : MOp) : Prop :=
  ∀ (W : WX) (σ : St), MtR X id fun x vs H Q => ∃ r h o xs, Rel G r h H ∧ VR G r H o x ∧ VRs G r H xs vs ∧ Post G W r H σ (VR G) Q (g o xs h)
theorem MtdM.of {id : String} {g : MOp} {R : V → List V → Hp → VK → Prop} (m : MtR X id R) (i : ∀ W σ r h H o x xs vs Q, Rel G r h H → VR G r H o x → VRs G r H xs vs → Post G W r H σ (VR G) Q (g o xs h) → R x vs H Q) : MtdM X G id g :=
  fun W σ0 pins s σ H x vs v us Q I rx rv ⟨r, h, o, xs, q, zo, z, p⟩ => m pins s σ H x vs v us Q I rx rv (i W σ0 r h H o x xs vs Q q zo z p)
def eBm (T : Kd) (g : MOp) (mo : EM) (ma : AM) : EM := fun l h => (mo l h).bind fun o h1 => if isKd T o h1 = true then (ma l h1).bind fun xs h2 => g o xs h2 else .bad
variable {o e : Expr} {es : List Expr} {mo : EM} {ma : AM} {name : Str} {apos cpos : Pos} {id : String} {g : MOp}
theorem me_bm {T : Kd} (hm : MtdM X G id g) (pa : PlainAttrs T.name) (slot : Slot T.name name id) (hty : typeOf (.builtin id) = pure (.type "method_descriptor")) (ho : ME X G W o mo) (ha : MA X G W (e :: es) ma)
    (hbase : attributeBase o name X.env (eval o X.env) = eval o X.env := by rfl)
    (hfew : ((backTo cpos (starEach (e :: es) X.env)).all (fun x => !x.1) && (backToKw cpos (keywordEach [] X.env)).all (fun x => x.1.isSome)
      && decide ((e :: es).length + ([] : List Keyword).length + (if ([] : List Keyword).isEmpty then 0 else 1) < 30)) = true := by rfl)
    (hline : (apos.endLine == cpos.line) = true := by rfl) (hs : starEach (e :: es) X.env = (false, eval e X.env) :: starEach es X.env := by rfl) (hplain : (backTo cpos (starEach es X.env)).any (·.1) = false := by rfl) :
    ME X G W (.Call (.Attribute o name apos) (e :: es) [] cpos) (eBm T g mo ma) := by
  refine ⟨fun pins s σ H Q I ⟨r, h, l, q, hl, pp⟩ => (pe_bm pa slot hty (hm W σ) ho ha hbase hfew hline hs hplain).run pins s σ H Q I ⟨r, h, l, q, hl, (Post.bind pp).imp fun x H1 ⟨r1, h1, w1, e1, q1, z1, p1⟩ => ?_⟩⟩
  dsimp only at p1
  split at p1
  · rename_i hk
    exact ⟨isKd_ok q1 z1 hk, r1, h1, l, q1, hl.ext e1, (Post.bind p1).imp fun vs H2 ⟨r2, h2, w2, e2, q2, z2, p2⟩ => ⟨r2, h2, w1, w2, q2, z1.ext e2, z2, p2⟩⟩
  · exact p1.elim
def strsOf : List Val → Option (List Str)
  | [] => some []
  | x :: xs => match x, strsOf xs with
    | .str b, some bs => some (b :: bs)
    | _, _ => none
theorem strs_ok {bs : List Str} (z : VRs G r H xs vs) (e : strsOf xs = some bs) : vs = bs.map V.str := by
  induction xs generalizing vs bs with
  | nil => cases z; cases e; rfl
  | cons x xs ih =>
    cases z with
    | cons a b =>
      simp only [strsOf] at e
      split at e
      · rename_i b1 bs' e2
        cases e
        cases a
        rw [ih b e2]
        rfl
      · cases e
def mJoin : MOp := fun o xs h => match o, xs with
  | .str a, [v] => (match (seqL v h).bind strsOf with
    | some ys => if (ys.map (·.length)).sum + ys.length * a.length ≤ 16777216 then .ok (.str (Txt.join a ys)) h else .bad
    | none => .bad)
  | _, _ => .bad
theorem mm_join : MtdM X G "str.join" mJoin := .of mt_join fun W σ r h H o x xs vs Q q zo z p => by
  unfold mJoin at p
  split at p
  · rename_i a v
    split at p
    · rename_i ys e
      split at p
      · rename_i hz
        cases zo
        cases z with
        | cons z1 z2 =>
          cases z2
          cases es : seqL v h with
          | none => rw [es] at e; cases e
          | some zs =>
            rw [es] at e
            obtain ⟨b, us, rfl, d, zz⟩ := seqL_ok q z1 es
            have := strs_ok zz e
            subst this
            exact ⟨a, b, ys, rfl, rfl, .inl (.inl (.inl d)), hz, Post.here q (.str _) p⟩
      · exact p.elim
    · exact p.elim
  · exact p.elim
def mAppend : MOp := fun o xs h => match o, xs with
  | .ref n, [y] => (match h[n]? with
    | some (.lst ys) => if ys.length < sizeLine then .ok .non (h.set n (.lst (ys ++ [y]))) else .bad
    | _ => .bad)
  | _, _ => .bad
theorem mm_append : MtdM X G "list.append" mAppend := .of (show MtR X "list.append" rAppend from mt_append) fun W σ r h H o x xs vs Q q zo z p => by
  unfold mAppend at p
  split at p
  · rename_i n y
    split at p
    · rename_i ys hn
      split at p
      · rename_i hz
        cases zo with
        | @ref n a e0 =>
          cases z with
          | cons z1 z2 =>
            cases z2
            obtain ⟨us, d, zz⟩ := q.lst_at e0 hn
            have nf : ∀ o u, H a ≠ some (.frz o u) := fun o u z => by rw [d] at z; cases z
            refine ⟨a, us, _, rfl, rfl, d, by rw [← zz.length]; exact hz, p r _ _ (ext_write q e0 nf) (q.write e0 nf (.lst upd_same ((zz.append (.cons z1 .nil)).ext (ext_write q e0 nf)))) .non⟩
      · exact p.elim
    · exact p.elim
  · exact p.elim
def mPop : MOp := fun o xs h => match o, xs with
  | .ref n, [.int i] => (match h[n]? with
    | some (.lst ys) => if -(2 ^ 63) ≤ i ∧ i < 2 ^ 63 then (match seqIndex? i ys.length with
      | some k => (match ys[k]? with
        | some y => .ok y (h.set n (.lst (ys.eraseIdx k)))
        | none => .bad)
      | none => .bad) else .bad
    | _ => .bad)
  | _, _ => .bad
theorem mm_pop : MtdM X G "list.pop" mPop := .of (show MtR X "list.pop" rPopAt from mt_popAt) fun W σ r h H o x xs vs Q q zo z p => by
  unfold mPop at p
  split at p
  · rename_i n i
    split at p
    · rename_i ys hn
      split at p
      · rename_i hz
        split at p
        · rename_i k hk
          split at p
          · rename_i y hy
            cases zo with
            | @ref n a e0 =>
              cases z with
              | cons z1 z2 =>
                cases z2
                cases z1
                obtain ⟨us, d, zz⟩ := q.lst_at e0 hn
                have nf : ∀ o u, H a ≠ some (.frz o u) := fun o u z => by rw [d] at z; cases z
                obtain ⟨u, hu, zu⟩ := zz.get hy
                refine ⟨a, us, i, k, u, rfl, rfl, d, hz.1, hz.2, by rw [← zz.length]; exact hk, hu, p r _ _ (ext_write q e0 nf) (q.write e0 nf (.lst upd_same ((zz.eraseIdx k).ext (ext_write q e0 nf)))) (zu.ext (ext_write q e0 nf))⟩
          · exact p.elim
        · exact p.elim
      · exact p.elim
    · exact p.elim
  · exact p.elim
variable {f : Expr} {me mf : EM}
def isDict (n : Nat) (h : HM) : Bool := match h[n]? with
  | some (.dK _) => true
  | some (.dT _) => true
  | some (.lK _) => true
  | some (.lT _) => true
  | _ => false
theorem isDict_ok (q : Rel G r h H) (e0 : r.ix[n]? = some a) (e : isDict n h = true) : IsD H a := by
  unfold isDict at e
  split at e
  · rename_i hn; cases q.ob n a _ e0 hn with | dK h1 h2 => exact .inl ⟨_, .inl h1⟩
  · rename_i hn; cases q.ob n a _ e0 hn with | dT h1 h2 => exact .inr ⟨_, .inl h1⟩
  · rename_i hn; cases q.ob n a _ e0 hn with | lK h1 h2 => exact .inl ⟨_, .inr ⟨_, h1⟩⟩
  · rename_i hn; cases q.ob n a _ e0 hn with | lT h1 h2 => exact .inr ⟨_, .inr ⟨_, h1⟩⟩
  · cases e
def eGet2 (mo me mf : EM) : EM := fun l h => (mo l h).bind fun o h1 => match o with
  | .ref n => if isDict n h1 = true then (me l h1).bind fun y h2 => (mf l h2).bind fun z h3 => match dGet n y h3 with
    | some (some v) => .ok v h3
    | some none => .ok z h3
    | none => .bad else .bad
  | _ => .bad
theorem me_get2 (hu : X.A.units + 1 < cLine) (ho : ME X G W o mo) (he : ME X G W e me) (hf : ME X G W f mf) (m : M2 X o "get" apos e f cpos := by exact ⟨rfl, rfl, rfl, rfl⟩) : ME X G W (.Call (.Attribute o "get" apos) [e, f] [] cpos) (eGet2 mo me mf) := by
  refine ⟨fun pins s σ H Q I ⟨r, h, l, q, hl, pp⟩ => (pe_dget2 hu ho he hf m).run pins s σ H Q I ⟨r, h, l, q, hl, (Post.bind pp).imp fun x H1 ⟨r1, h1, w1, e1, q1, z1, p1⟩ => ?_⟩⟩
  cases z1 with
  | @ref n a e0 =>
    dsimp only at p1
    split at p1
    · rename_i hk
      have hd : IsD H1 a := isDict_ok q1 e0 hk
      refine ⟨a, rfl, hd, r1, h1, l, q1, hl.ext e1, (Post.bind p1).imp fun y H2 ⟨r2, h2, w2, e2, q2, z2, p2⟩ => ⟨r2, h2, l, q2, (hl.ext e1).ext e2, (Post.bind p2).imp fun zv H3 ⟨r3, h3, w3, e3, q3, z3, p3⟩ => ?_⟩⟩
      have e0' := pre_get e3.pre (pre_get e2.pre e0)
      dsimp only at p3
      split at p3
      · rename_i v ev
        obtain ⟨u, g, zu⟩ := (dGet_ok q3 e0' (z2.ext e3) ev).1 v rfl
        exact ⟨some u, g, Post.here q3 zu p3⟩
      · rename_i ev
        exact ⟨none, (dGet_ok q3 e0' (z2.ext e3) ev).2 rfl, Post.here q3 z3 p3⟩
      · exact p3.elim
    · exact p1.elim
  | _ => exact p1.elim
def putV {κ : Type} [DecidableEq κ] (kvs : List (κ × Val)) (k : κ) (v : Val) : List (κ × Val) :=
  if (kvs.any fun kv => decide (kv.1 = k)) = true then kvs.map (fun kv => if kv.1 = k then (kv.1, v) else kv) else kvs ++ [(k, v)]
def dropV {κ : Type} [DecidableEq κ] (kvs : List (κ × Val)) (k : κ) : List (κ × Val) := kvs.filter fun kv => decide (kv.1 ≠ k)
theorem KR.anyk {κ : Type} [DecidableEq κ] {kvs : List (κ × Val)} {kv : List (κ × V)} (q : KR G r H kvs kv) (k : κ) : (kv.any fun p => decide (p.1 = k)) = kvs.any fun p => decide (p.1 = k) := by
  induction q with
  | nil => rfl
  | cons a b ih => rw [List.any_cons, List.any_cons, ih, a.1]
theorem KR.append {κ : Type} {x x' : List (κ × Val)} {y y' : List (κ × V)} (a : KR G r H x y) (b : KR G r H x' y') : KR G r H (x ++ x') (y ++ y') := by
  induction a with
  | nil => exact b
  | cons p q ih => exact .cons p ih
theorem KR.mapk {κ : Type} [DecidableEq κ] (k : κ) {y : Val} {u : V} (z : VR G r H y u) : ∀ {kvs : List (κ × Val)} {kv : List (κ × V)}, KR G r H kvs kv → KR G r H (kvs.map fun kv => if kv.1 = k then (kv.1, y) else kv) (kv.map fun kv => if kv.1 = k then (kv.1, u) else kv)
  | _, _, .nil => .nil
  | p :: _, p' :: _, .cons a b => by
    rw [List.map_cons, List.map_cons]
    refine .cons ?_ (KR.mapk k z b)
    by_cases e : p.1 = k
    · rw [if_pos e, if_pos (a.1 ▸ e)]; exact ⟨a.1, z⟩
    · rw [if_neg e, if_neg (a.1 ▸ e)]; exact a
theorem KR.put {κ : Type} [DecidableEq κ] {kvs : List (κ × Val)} {kv : List (κ × V)} (q : KR G r H kvs kv) (k : κ) {y : Val} {u : V} (z : VR G r H y u) : KR G r H (putV kvs k y) (putK kv k u) := by
  unfold putV L2.putK
  rw [q.anyk k]
  split
  · exact q.mapk k z
  · exact KR.append q (.cons ⟨rfl, z⟩ .nil)
/-- o[i] = v -/
def setI (o i v : Val) (h : HM) : Option HM := match o with
  | .ref n => (match h[n]? with
    | some (.lst xs) => (match i with
      | .int k => (ixN xs.length k).map fun j => h.set n (.lst (xs.set j v))
      | _ => none)
    | some (.dK kvs) => if kvs.length < sizeLine then (keyOf i).map fun k => h.set n (.dK (putV kvs k v)) else none
    | some (.dT kvs) => if kvs.length < sizeLine then (tkey i).map fun k => h.set n (.dT (putV kvs k v)) else none
    | _ => none)
  | _ => none
def sSub (mo mi mv : EM) : SM := fun l h => (mv l h).thn l fun y h1 => (mo l h1).thn l fun o h2 => (mi l h2).thn l fun i h3 => match setI o i y h3 with
  | some h4 => .nx l h4
  | none => .bad
theorem ms_sub {i v : Expr} {mi mv : EM} {pos pos' : Pos} (hu : X.A.units + 1 < cLine) (ho : ME X G W o mo) (hi : ME X G W i mi) (hv : ME X G W v mv) (hs : swapsWith v (some (.Subscript o i pos')) pos.line X.env = pure false := by rfl) :
    MS X G W (.Assign [.Subscript o i pos'] v pos) (sSub mo mi mv) := by
  refine ⟨fun pins s σ H D I ⟨r, h, l, q, hl, p⟩ => ?_⟩
  refine PySem.wpAny_Assign_Subscript (thn (hv.run pins s σ H _ I ⟨r, h, l, q, hl, Post.thn hl p⟩) fun u1 s1 ⟨y, H1, I1, ry, ⟨r1, h1, v1, e1, q1, z1, p1⟩⟩ => thn (ho.run pins s1 σ H1 _ I1 ⟨r1, h1, l, q1, hl.ext e1, Post.thn (hl.ext e1) p1⟩) fun u2 s2 ⟨x, H2, I2, rx, ⟨r2, h2, v2, e2, q2, z2, p2⟩⟩ =>
    thn (hi.run pins s2 σ H2 _ I2 ⟨r2, h2, l, q2, (hl.ext e1).ext e2, Post.thn ((hl.ext e1).ext e2) p2⟩) fun u3 s3 ⟨w, H3, I3, rw', ⟨r3, h3, v3, e3, q3, z3, p3⟩⟩ => ?_) hs
  have zy := (z1.ext e2).ext e3
  have zo := z2.ext e3
  have hl3 := ((hl.ext e1).ext e2).ext e3
  dsimp only at p3
  cases zo with
  | @ref n a e0 =>
    cases hset : setI (.ref n) v3 v1 h3 with
    | none => rw [hset] at p3; exact p3.elim
    | some h4 =>
      rw [hset] at p3
      unfold setI at hset
      dsimp only at hset
      obtain rfl : u2 = Value.ref a := rx
      cases hn : h3[n]? with
      | none => rw [hn] at hset; cases hset
      | some ob =>
        rw [hn] at hset
        have hob := q3.ob n a ob e0 hn
        cases hob with
        | @lst xs vs g1 g2 =>
          have nf : ∀ o u, H3 a ≠ some (.frz o u) := fun o u z => by rw [g1] at z; cases z
          dsimp only at hset
          cases z3 with
          | int k =>
            simp only [Option.map_eq_some_iff] at hset
            obtain ⟨j, hj, rfl⟩ := hset
            refine thn (set_list pins s3 σ H3 (.ref a) (.int k) y _ u3 u1 (D.nx σ) I3 rfl rw' ry ⟨a, vs, k, j, rfl, rfl, g1, by rw [← g2.length]; exact hj, ?_⟩) fun _ s4 ⟨H4, I4, q4⟩ => ⟨σ, H4, I4, q4⟩
            exact p3 r3 _ σ (ext_write q3 e0 nf) (q3.write e0 nf (.lst upd_same ((g2.set j zy).ext (ext_write q3 e0 nf)))) (hl3.ext (ext_write q3 e0 nf))
          | _ => cases hset
        | @dK kvs kv g1 g2 =>
          have nf : ∀ o u, H3 a ≠ some (.frz o u) := fun o u z => by rw [g1] at z; cases z
          dsimp only at hset
          split at hset
          · rename_i hz
            simp only [Option.map_eq_some_iff] at hset
            obtain ⟨kk, hk, rfl⟩ := hset
            have := key_V z3 hk
            subst this
            refine d_setItem hu I3 (.k g1 (by rw [← Paired.length g2]; exact hz)) rw' ry fun s4 I4 => ⟨σ, _, I4, ?_⟩
            exact p3 r3 _ σ (ext_write q3 e0 nf) (q3.write e0 nf (.dK upd_same ((g2.put kk zy).ext (ext_write q3 e0 nf)))) (hl3.ext (ext_write q3 e0 nf))
          · cases hset
        | @dT kvs kv g1 g2 =>
          have nf : ∀ o u, H3 a ≠ some (.frz o u) := fun o u z => by rw [g1] at z; cases z
          dsimp only at hset
          split at hset
          · rename_i hz
            simp only [Option.map_eq_some_iff] at hset
            obtain ⟨kk, hk, rfl⟩ := hset
            cases z3 with
            | tup d oo zz =>
              have := keys_V zz hk
              subst this
              refine d_setItem hu I3 (.t g1 d (by rw [← Paired.length g2]; exact hz)) rw' ry fun s4 I4 => ⟨σ, _, I4, ?_⟩
              exact p3 r3 _ σ (ext_write q3 e0 nf) (q3.write e0 nf (.dT upd_same ((g2.put kk zy).ext (ext_write q3 e0 nf)))) (hl3.ext (ext_write q3 e0 nf))
            | _ => cases hk
          · cases hset
        | _ => cases hset
  | _ => exact p3.elim
end
end MM
namespace MM
open PySem L2
mutual
/-- v' is v, the lists from n on frozen -/
inductive Frz (h : HM) (n : Nat) : Val → Val → Prop
  | non : Frz h n .non .non
  | bl (b : Bool) : Frz h n (.bl b) (.bl b)
  | int (b : Int) : Frz h n (.int b) (.int b)
  | str (b : Str) : Frz h n (.str b) (.str b)
  | fn (b : Nat) : Frz h n (.fn b) (.fn b)
  | ty (b : String) : Frz h n (.ty b) (.ty b)
  | scr (b : List Int) : Frz h n (.scr b) (.scr b)
  | tup {xs ys : List Val} : FrzS h n xs ys → Frz h n (.tup xs) (.tup ys)
  | lst {xs ys : List Val} : FrzS h n xs ys → Frz h n (.lst xs) (.lst ys)
  | ptup {xs ys : List Val} : FrzS h n xs ys → Frz h n (.ptup xs) (.ptup ys)
  | ref {k : Nat} : k < n → Frz h n (.ref k) (.ref k)
  | frz {k : Nat} {xs ys : List Val} : n ≤ k → h[k]? = some (.lst xs) → FrzS h n xs ys → Frz h n (.ref k) (.lst ys)
inductive FrzS (h : HM) (n : Nat) : List Val → List Val → Prop
  | nil : FrzS h n [] []
  | cons {x y : Val} {xs ys : List Val} : Frz h n x y → FrzS h n xs ys → FrzS h n (x :: xs) (y :: ys)
end
def FrzK {κ : Type} (h : HM) (n : Nat) : List (κ × Val) → List (κ × Val) → Prop := Paired fun p q => p.1 = q.1 ∧ Frz h n p.2 q.2
inductive FrzO (h : HM) (n : Nat) : Ob → Ob → Prop
  | lst {xs ys : List Val} : FrzS h n xs ys → FrzO h n (.lst xs) (.lst ys)
  | dK {xs ys : List (Key × Val)} : FrzK h n xs ys → FrzO h n (.dK xs) (.dK ys)
  | dT {xs ys : List (List Key × Val)} : FrzK h n xs ys → FrzO h n (.dT xs) (.dT ys)
  | ins {c : Nat} {xs ys : List Val} : FrzS h n xs ys → FrzO h n (.ins c xs) (.ins c ys)
  | lK {xs ys : List (Key × Val)} : FrzK h n xs ys → FrzO h n (.lK xs) (.lK ys)
  | lT {xs ys : List (List Key × Val)} : FrzK h n xs ys → FrzO h n (.lT xs) (.lT ys)
  | dN {ks : List ((Int × Int) × Int)} : FrzO h n (.dN ks) (.dN ks)
  | dQ {ks : List (Int × (Int × Int))} : FrzO h n (.dQ ks) (.dQ ks)
  | lQ {ks : List (Int × (Int × Int))} : FrzO h n (.lQ ks) (.lQ ks)
structure FrzH (h : HM) (h' : HM) : Prop where
  le : h'.length ≤ h.length
  ob : ∀ (i : Nat) (o o' : Ob), h[i]? = some o → h'[i]? = some o' → FrzO h h'.length o o'
/-- nothing points beyond -/
def Wf (h : HM) : Prop := ∀ o ∈ h, ∀ h', FrzO h' h.length o o
def Clo (n : Nat) (v : Val) : Prop := ∀ h', Frz h' n v v
def CloS (n : Nat) (v : List Val) : Prop := ∀ h', FrzS h' n v v
/-- what is promised less of -/
inductive Le (h0 : HM) : Res Val → Res Val → Prop
  | bad {x : Res Val} : Le h0 .bad x
  | same {x : Res Val} : Le h0 x x
  | ok {v v' : Val} {h h' : HM} : h0.length ≤ h'.length → FrzH h h' → Frz h h'.length v v' → Le h0 (.ok v' h') (.ok v h)
  | exc {c : Nat} {h h' : HM} : h0.length ≤ h'.length → FrzH h h' → Le h0 (.exc c h') (.exc c h)
section
variable {G : Glob} {r r' : Ad} {h h' : HM} {H H' : Hp} {n : Nat}
def Ad.cut (r : Ad) (n : Nat) : Ad := { r with ix := r.ix.take n }
mutual
theorem VR.clo {v : Val} {u : V} (z : VR G r H v u) : Clo r.ix.length v := by
  match v, u, z with
  | _, _, .non => exact fun _ => .non
  | _, _, .bl b => exact fun _ => .bl b
  | _, _, .int i => exact fun _ => .int i
  | _, _, .str x => exact fun _ => .str x
  | .tup xs, _, .tup dd o q => exact fun h => .tup (q.clo h)
  | .lst xs, _, .lst dd o q => exact fun h => .lst (q.clo h)
  | .ptup xs, _, .ptup dd dn o q => exact fun h => .ptup (q.clo h)
  | _, _, .ref e => exact fun h => .ref (List.getElem?_eq_some_iff.mp e).1
  | _, _, .fn _ => exact fun _ => .fn _
  | _, _, .ty _ => exact fun _ => .ty _
  | _, _, .scr _ => exact fun _ => .scr _
theorem VRs.clo {vs : List Val} {us : List V} (z : VRs G r H vs us) : CloS r.ix.length vs := by
  match vs, us, z with
  | _, _, .nil => exact fun _ => .nil
  | v :: vs, _, .cons q t => exact fun h => .cons (q.clo h) (t.clo h)
end
theorem KR.clo {κ : Type} {x : List (κ × Val)} {y : List (κ × V)} (q : KR G r H x y) (h : HM) : FrzK h r.ix.length x x := by
  induction q with
  | nil => exact .nil
  | cons a b ih => exact .cons ⟨rfl, a.2.clo h⟩ ih
theorem Rel.wf (q : Rel G r h H) : Wf h := by
  intro o ho h'
  obtain ⟨i, hi, e⟩ := List.mem_iff_getElem.mp ho
  obtain ⟨a, _, ob⟩ := q.adr (n := i) (o := o) (by simp [hi, e])
  rw [← q.len]
  cases ob with
  | lst h1 h2 => exact .lst (h2.clo h')
  | dK h1 h2 => exact .dK (h2.clo h')
  | dT h1 h2 => exact .dT (h2.clo h')
  | ins h1 h2 h3 h4 => exact .ins (h4.clo h')
  | lK h1 h2 => exact .lK (h2.clo h')
  | lT h1 h2 => exact .lT (h2.clo h')
  | dN h1 h2 h3 => exact .dN
  | dQ h1 h2 h3 => exact .dQ
  | lQ h1 h2 h3 => exact .lQ
theorem cut_at {k : Nat} {a : Addr} (e : r.ix[k]? = some a) (hk : k < n) : (r.cut n).ix[k]? = some a := by
  show (r.ix.take n)[k]? = some a
  rw [List.getElem?_take]
  simp [hk, e]
theorem cut_out {a : Addr} (o : r.out a) : (r.cut n).out a := ⟨fun m => o.1 (List.mem_of_mem_take m), o.2⟩
theorem cut_out2 (q : Rel G r h H) {k : Nat} {a : Addr} (e : r.ix[k]? = some a) (hk : n ≤ k) : (r.cut n).out a := by
  refine ⟨fun m => ?_, fun m => (q.hid a m).1 (List.mem_of_getElem? e)⟩
  obtain ⟨j, hj, ej⟩ := List.mem_iff_getElem.mp (show a ∈ r.ix.take n from m)
  have hj' : j < n := by simp at hj; omega
  have : r.ix[j]? = some a := by
    rw [List.getElem_take] at ej
    have : j < r.ix.length := by simp at hj; omega
    simp [this, ej]
  have := nodup_ixA q.nd this e
  omega
mutual
theorem VR.frz (q : Rel G r h H) {v v' : Val} {u : V} (z : VR G r H v u) (f : Frz h n v v') : VR G (r.cut n) H v' u := by
  match v, v', f with
  | _, _, .non => cases z; exact .non
  | _, _, .bl b => cases z; exact .bl b
  | _, _, .int i => cases z; exact .int i
  | _, _, .str x => cases z; exact .str x
  | _, _, .fn x => cases z with | fn e => exact .fn e
  | _, _, .ty x => cases z; exact .ty x
  | _, _, .scr x => cases z with | scr e => exact .scr (e.imp (fun z => ⟨z.1, cut_out z.2⟩) fun z => z)
  | _, _, .tup fs => cases z with | tup d o zz => exact .tup d (cut_out o) (VRs.frz q zz fs)
  | _, _, .lst fs => cases z with | lst d o zz => exact .lst d (cut_out o) (VRs.frz q zz fs)
  | _, _, .ptup fs => cases z with | ptup d dn o zz => exact .ptup d dn (cut_out o) (VRs.frz q zz fs)
  | _, _, .ref hk => cases z with | ref e => exact .ref (cut_at e hk)
  | _, _, .frz hk hn fs => cases z with
    | ref e =>
      obtain ⟨vs, d, zz⟩ := q.lst_at e hn
      exact .lst d (cut_out2 q e hk) (VRs.frz q zz fs)
theorem VRs.frz (q : Rel G r h H) {v v' : List Val} {u : List V} (z : VRs G r H v u) (f : FrzS h n v v') : VRs G (r.cut n) H v' u := by
  match v, v', f with
  | _, _, .nil => cases z; exact .nil
  | _, _, .cons a b => cases z with | cons x y => exact .cons (VR.frz q x a) (VRs.frz q y b)
end
theorem KR.frz {κ : Type} (q : Rel G r h H) {x x' : List (κ × Val)} {y : List (κ × V)} (z : KR G r H x y) (f : FrzK h n x x') : KR G (r.cut n) H x' y := by
  induction f generalizing y with
  | nil => cases z; exact .nil
  | cons a b ih => cases z with | cons c d => exact .cons ⟨a.1.symm.trans c.1, c.2.frz q a.2⟩ (ih d)
theorem Rel.frz (q : Rel G r h H) (f : FrzH h h') : Rel G (r.cut h'.length) h' H := by
  refine ⟨q.nd.sublist (List.take_sublist _ _), ?_, fun a m => ⟨fun m2 => (q.hid a m).1 (List.mem_of_mem_take m2), (q.hd a m).2⟩, fun i a o e1 e2 => ?_, q.lk, fun i a o e1 e2 hw => ?_⟩
  · show (r.ix.take _).length = _
    rw [List.length_take, q.len]
    have := f.le
    omega
  · have e1' : r.ix[i]? = some a := by
      have e1 : (r.ix.take h'.length)[i]? = some a := e1
      rw [List.getElem?_take] at e1
      split at e1
      · exact e1
      · cases e1
    obtain ⟨o0, ho, ob⟩ := q.at_ e1'
    have fo := f.ob i o0 o ho e2
    cases fo with
    | lst fs => cases ob with | lst h1 h2 => exact .lst h1 (h2.frz q fs)
    | dK fs => cases ob with | dK h1 h2 => exact .dK h1 (h2.frz q fs)
    | dT fs => cases ob with | dT h1 h2 => exact .dT h1 (h2.frz q fs)
    | ins fs => cases ob with | ins h1 h2 h3 h4 => exact .ins h1 h2 h3 (h4.frz q fs)
    | lK fs => cases ob with | lK h1 h2 => exact .lK h1 (h2.frz q fs)
    | lT fs => cases ob with | lT h1 h2 => exact .lT h1 (h2.frz q fs)
    | dN => cases ob with | dN h1 h2 h3 => exact .dN h1 h2 fun x hx => ⟨(h3 x hx).1, cut_out (h3 x hx).2.1, (h3 x hx).2.2.1, cut_out (h3 x hx).2.2.2⟩
    | dQ => cases ob with | dQ h1 h2 h3 => exact .dQ h1 h2 fun x hx => ⟨(h3 x hx).1, cut_out (h3 x hx).2.1, (h3 x hx).2.2.1, cut_out (h3 x hx).2.2.2⟩
    | lQ => cases ob with | lQ h1 h2 h3 => exact .lQ h1 h2 fun x hx => ⟨(h3 x hx).1, cut_out (h3 x hx).2.1, (h3 x hx).2.2.1, cut_out (h3 x hx).2.2.2⟩
  · have e1' : r.ix[i]? = some a := by
      have e1 : (r.ix.take h'.length)[i]? = some a := e1
      rw [List.getElem?_take] at e1
      split at e1
      · exact e1
      · cases e1
    obtain ⟨o0, ho, ob⟩ := q.at_ e1'
    have fo := f.ob i o0 o ho e2
    refine q.lo i a o0 e1' ho ?_
    cases fo <;> exact hw
theorem Ext.cut (e : Ext r H r' H') (hn : r.ix.length ≤ n) : Ext r H (r'.cut n) H' := by
  refine ⟨⟨?_, fun a u z o => ⟨(e.keep a u z o).1, cut_out (e.keep a u z o).2⟩⟩, e.hid, e.hk, e.lkk, e.lks⟩
  obtain ⟨t, ht⟩ := e.pre
  show r.ix <+: r'.ix.take n
  rw [← ht, List.take_append, List.take_of_length_le hn]
  exact List.prefix_append _ _
theorem Le.post {Q : VK} {E : XK} {x x' : Res Val} (le : Le h x' x) (q : Rel G r h H) (p : PostF G r H Q E x') : PostF G r H Q E x := by
  cases le with
  | bad => exact p.elim
  | same => exact p
  | ok hn fh fv => exact fun r' H' u e q' z => p _ H' u (e.cut (by rw [q.len]; exact hn)) (q'.frz fh) (z.frz q' fv)
  | exc hn fh => exact fun r' H' C e q' z => p _ H' C (e.cut (by rw [q.len]; exact hn)) (q'.frz fh) z
/-- m may be taken for m' -/
theorem FnM.le {P : Program} {w : World} {K : PySem.W.Frag} {mg : Str → Option Value} {base : Heap} {k : Nat} {f : Addr} {m m' : FM} (F : FnM P w K mg base G k f n m)
    (hl : ∀ xs h, xs.length = n → Wf h → CloS h.length xs → Le h (m' xs h) (m xs h)) : FnM P w K mg base G k f n m' :=
  F.imp fun r h H xs vs Q E q z hx p => (hl xs h hx q.wf (by rw [← q.len]; exact z.clo)).post q p
/-- what stands beyond is forgotten -/
theorem Wf.cut (w : Wf h) (g : HM) : FrzH (h ++ g) h := ⟨by simp, fun i o o' e1 e2 => by
  have hi : i < h.length := (List.getElem?_eq_some_iff.mp e2).1
  rw [List.getElem?_append_left hi] at e1
  rw [e1] at e2
  cases e2
  exact w o (List.mem_of_getElem? e1) _⟩
theorem Le.pure {v v' : Val} {g : HM} (w : Wf h) (f : Frz (h ++ g) h.length v v') : Le h (.ok v' h) (.ok v (h ++ g)) := .ok (Nat.le_refl _) (w.cut g) f
end
theorem tk0 {X : Cx} : Takes X W0 := fun _ _ ⟨_, _, _, _, _, _, _, _, _, _, _, _, _, _, _, _, w⟩ => w.elim
theorem FnM.at_ {P : Program} {w : World} {K : PySem.W.Frag} {mg : Str → Option Value} {base : Heap} {G : Glob} {k : Nat} {f : Addr} {x qual : Str} {params : Arguments} {body : List Stmt} {scope : Scope} {fd : FuncData} {N ps : List Str} {b : SM} (F : FunD K x qual params body scope [] [] f fd) (S : FnScope N ps scope)
    (hbody : ∀ (cdv : Value) (A : Around) (outer : List Env) (s : Shared) (H : Hp) (E : XK), Room k (A.deeper (PyProof.Rows.envOfC qual scope s.heap.objs.size f cdv)) →
      MSs (cxOf (L2.CX P w) P w K mg base N qual scope f cdv A outer s H E) G (fun cls d _ H => E cls d H) body b) : FnOk P w K mg base (L2.CX P w) (k + 1) f fd ps (spM G ps.length (mF N.length b)) := by
  refine F.ok S (fun vs H Q E h => h.1) (fun cdv A outer s H vs Q E hr h => ⟨_, hbody cdv A outer s H E hr, ?_⟩)
  obtain ⟨hl, r, h1, xs, q, z, p⟩ := h
  refine ⟨r, h1, _, q, z.start N, ?_⟩
  unfold mF at p
  revert p
  cases b (xs.map some ++ List.replicate (N.length - xs.length) none) h1 with
  | nx l h2 => exact fun p r' H' s' e q' _ => p r' H' _ e q' .non
  | rt v h2 => exact fun p => p
  | exc c l h2 => exact fun p r' H' s' C e q' _ g => p r' H' C e q' g
  | bad => exact fun p => p
theorem law_start {G : Glob} {m : FM} {H : Hp} {a : Addr} {ns : List Int} {h' : HM} (hS : SqL G.K H a (ns.map V.int)) (e : m [.scr ns] [] = .ok (.bl true) h') : spM G 1 m [.ref a] H (fun v _ => v = .bl true) fun _ _ _ => False := by
  refine ⟨rfl, ⟨[], [], []⟩, [], [.scr ns], ⟨List.nodup_nil, rfl, fun a m => (by cases m), fun n a o e => (by simp at e), fun a m => (by cases m), fun n a o e => (by simp at e)⟩, .cons (.scr ?_) .nil, ?_⟩
  · rcases hS with hS | hS
    · exact .inl ⟨hS, by simp [Ad.out]⟩
    · exact .inr fun H' => .inr hS
  · rw [e]
    intro r' H' u _ _ z
    cases z
    rfl
end MM
namespace MM
open PySem L2
theorem u1 {k : Nat} {A : Around} (hr : Room k A) : A.units + 1 < cLine := by have := hr.units; omega
end MM
namespace L2
open PySem
theorem Room.u1 {k : Nat} {A : Around} (hr : Room k A) : A.units + 1 < cLine := by have := hr.units; omega
theorem Room.u65 {k : Nat} {A : Around} (hr : Room k A) : A.units + 65 < cLine := by have := hr.un; omega
theorem Room.u200 {k : Nat} {A : Around} (hr : Room k A) : A.units + 200 < cLine := by have := hr.un; omega
end L2
namespace MM
open PySem L2
section
variable {X : Cx} {G : Glob} {W : WX} {r r1 r2 : Ad} {H H1 H2 : Hp} {h h1 : HM} {l : Loc} {s : St} {K : PySem.W.Frag} {a : Addr} {xs : List Val} {vs : List V} {n k : Nat} {pos : Pos} {e : Expr} {me : EM}
def eDictK : EM := fun _ h => .ok (.ref h.length) (h ++ [.dK []])
def eDictT : EM := fun _ h => .ok (.ref h.length) (h ++ [.dT []])
theorem post_alloc {Q : VK} {o : HO} {u : Ob} {a : Addr} (q : Rel G r h H) (n : H a = none) (z : ObR G (r.push a) (upd H a o) a u) (p : Post G W r H s (VR G) Q (.ok (.ref h.length) (h ++ [u]))) (hu : isLk u = false := by rfl) : Q (.ref a) (upd H a o) :=
  p (r.push a) _ _ (ext_alloc q n) (q.alloc n z hu) (.ref (by rw [← q.len]; exact get_last))
theorem me_dictK : ME X G W (.Dict [] [] pos) eDictK := ⟨fun pins s σ H Q I ⟨r, h, l, q, hl, p⟩ => pe_dnewK.run pins s σ H Q I fun a n => post_alloc q n (.dK upd_same .nil) p⟩
theorem me_dictT : ME X G W (.Dict [] [] pos) eDictT := ⟨fun pins s σ H Q I ⟨r, h, l, q, hl, p⟩ => pe_dnewT.run pins s σ H Q I fun a n => post_alloc q n (.dT upd_same .nil) p⟩
def eNegM (m : EM) : EM := fun l h => (m l h).bind fun v h1 => match v with
  | .int i => .ok (.int (-i)) h1
  | _ => .bad
def bTuple : BOp := fun xs h => match xs with
  | [.tup ys] => .ok (.tup ys) h
  | [.ptup ys] => .ok (.ptup ys) h
  | [v] => (match seqL v h with
    | some ys => .ok (.tup ys) h
    | none => .bad)
  | _ => .bad
theorem cm_tuple : CallM X G (.type "tuple") bTuple := .of call_tuple_of fun W σ r h H xs vs Q q z p => by
  unfold bTuple at p
  split at p
  · cases z with
    | cons z1 z2 =>
      cases z2
      cases z1 with
      | tup d o zz => exact ⟨_, _, rfl, .inr ⟨.inl (.inl d), Post.here q (.tup d o zz) p⟩⟩
  · cases z with
    | cons z1 z2 =>
      cases z2
      cases z1 with
      | ptup d dn o zz => exact ⟨_, _, rfl, .inr ⟨.inl (.inr ⟨_, d⟩), Post.here q (.ptup d dn o zz) p⟩⟩
  · split at p
    · rename_i ys e
      cases z with
      | cons z1 z2 =>
        cases z2
        obtain ⟨a, us, rfl, d, zz⟩ := seqL_ok q z1 e
        exact ⟨a, us, rfl, .inl ⟨.inl (.inl d), fun b n => p r _ _ (ext_new q n) (q.laid n) (.tup upd_same (q.new n) (zz.ext (ext_new q n)))⟩⟩
    · exact p.elim
  · exact p.elim
def keyV : Key → Val
  | .inl i => .int i
  | .inr x => .str x
/-- what list(x) has -/
def listOf (v : Val) (h : HM) : Option (List Val) := match v with
  | .tup ys => some ys
  | .ptup ys => some ys
  | .lst ys => some ys
  | .ref n => (match h[n]? with
    | some (.lst ys) => some ys
    | some (.dK kvs) => some (kvs.map fun p => keyV p.1)
    | _ => none)
  | _ => none
def bList : BOp := fun xs h => match xs with
  | [v] => (match listOf v h with
    | some ys => .ok (.lst ys) h
    | none => .bad)
  | _ => .bad
theorem vr_key (k : Key) : VR G r H (keyV k) (kV k) := by cases k with
  | inl i => exact .int i
  | inr x => exact .str x
theorem KR.keysV {kvs : List (Key × Val)} {kv : List (Key × V)} (q : KR G r H kvs kv) : VRs G r H (kvs.map fun p => keyV p.1) (kv.map fun p => kV p.1) := by
  induction q with
  | nil => exact .nil
  | cons a b ih => exact .cons (by show VR _ _ _ (keyV _) (kV _); rw [a.1]; exact vr_key _) ih
theorem list_of {v : Val} {x : V} {ys : List Val} (q : Rel G r h H) (z : VR G r H v x) (e : listOf v h = some ys) : ∃ us, VRs G r H ys us ∧ ((∃ p, x = .ref p ∧ (SqL K H p us ∨ SqT K H p us)) ∨ ∃ p kvs, x = .ref p ∧ H p = some (.dK kvs) ∧ us = kvs.map fun kv => kV kv.1) := by
  cases z with
  | tup d o zz => cases e; exact ⟨_, zz, .inl ⟨_, rfl, .inr (.inl (.inl d))⟩⟩
  | lst d o zz => cases e; exact ⟨_, zz, .inl ⟨_, rfl, .inl (.inl (.inl d))⟩⟩
  | ptup d dn o zz => cases e; exact ⟨_, zz, .inl ⟨_, rfl, .inr (.inl (.inr ⟨_, d⟩))⟩⟩
  | ref e0 =>
    obtain ⟨o, ho, ob⟩ := q.at_ e0
    simp only [listOf, ho] at e
    cases ob with
    | lst h1 h2 => cases e; exact ⟨_, h2, .inl ⟨_, rfl, .inl (.inl (.inl h1))⟩⟩
    | dK h1 h2 => cases e; exact ⟨_, h2.keysV, .inr ⟨_, _, rfl, h1, rfl⟩⟩
    | _ => cases e
  | _ => cases e
theorem list_made {v : Val} {x : V} {ys : List Val} {Q : VK} (q : Rel G r h H) (z : VR G r H v x) (e : listOf v h = some ys) (f : ∀ us, VRs G r H ys us → ∀ b, H b = none → Q (.ref b) (upd H b (.lst us))) :
    (∃ p ys, [x] = [V.ref p] ∧ (SqL X.K H p ys ∨ SqT X.K H p ys) ∧ ∀ l, H l = none → Q (.ref l) (upd H l (.lst ys))) ∨ rListD [x] H Q := by
  obtain ⟨us, zz, ⟨p, rfl, d⟩ | ⟨p, kvs, rfl, d, rfl⟩⟩ := list_of (K := X.K) q z e
  · exact .inl ⟨p, us, rfl, d, fun b n => f us zz b n⟩
  · exact .inr ⟨p, kvs, rfl, d, fun b n => f _ zz b n⟩
theorem cm_list (hc : X.calm = true) : CallM X G (.type "list") bList := .of (CallR.or call_list_of (call_list_dK hc)) fun W σ r h H xs vs Q q z p => by
  unfold bList at p
  split at p
  · split at p
    · rename_i ys e
      cases z with
      | cons z1 z2 =>
        cases z2
        exact list_made q z1 e fun us zz b n => p r _ _ (ext_new q n) (q.laid n) (.lst upd_same (q.new n) (zz.ext (ext_new q n)))
    · exact p.elim
  · exact p.elim
def intsOf : List Val → Option (List Int)
  | [] => some []
  | x :: xs => match x, intsOf xs with
    | .int b, some bs => some (b :: bs)
    | _, _ => none
theorem ints_ok {bs : List Int} (z : VRs G r H xs vs) (e : intsOf xs = some bs) : vs = bs.map V.int := by
  induction xs generalizing vs bs with
  | nil => cases z; cases e; rfl
  | cons x xs ih =>
    cases z with
    | cons a b =>
      simp only [intsOf] at e
      split at e
      · rename_i b1 bs' e2
        cases e
        cases a
        rw [ih b e2]
        rfl
      · cases e
def maxL : List Int → Int
  | [] => 0
  | x :: xs => xs.foldl max x
theorem foldl_max (xs : List Int) : ∀ x : Int, (xs.foldl max x = x ∨ xs.foldl max x ∈ xs) ∧ x ≤ xs.foldl max x ∧ ∀ y ∈ xs, y ≤ xs.foldl max x := by
  induction xs with
  | nil => intro x; simp
  | cons z xs ih =>
    intro x
    obtain ⟨a, b, c⟩ := ih (max x z)
    simp only [List.foldl_cons, List.mem_cons]
    refine ⟨?_, by omega, fun y hy => ?_⟩
    · rcases a with a | a
      · rw [a]; rcases Int.le_total x z with h | h
        · rw [Int.max_eq_right h]; exact .inr (.inl rfl)
        · rw [Int.max_eq_left h]; exact .inl rfl
      · exact .inr (.inr a)
    · rcases hy with rfl | hy
      · omega
      · exact c y hy
def bMax : BOp := fun xs h => match xs with
  | [.int i, .int j] => .ok (.int (if j > i then j else i)) h
  | [v] => (match (seqL v h).bind intsOf with
    | some (x :: ns) => .ok (.int (maxL (x :: ns))) h
    | _ => .bad)
  | _ => .bad
theorem ints_seq {v : Val} {x : V} {bs : List Int} (q : Rel G r h H) (z : VR G r H v x) (e : (seqL v h).bind intsOf = some bs) : ∃ a, x = .ref a ∧ SqL K H a (bs.map V.int) := by
  cases es : seqL v h with
  | none => rw [es] at e; cases e
  | some ys =>
    rw [es] at e
    obtain ⟨a, vs, rfl, d, zz⟩ := seqL_ok q z es
    have := ints_ok zz e
    subst this
    exact ⟨a, rfl, .inl (.inl d)⟩
theorem cm_max (hc : X.calm = true) : CallM X G (.builtin "max") bMax := .of (CallR.or (call_max2 hc) (cr_max hc)) fun W σ r h H xs vs Q q z p => by
  unfold bMax at p
  split at p
  · cases z with
    | cons z1 z2 => cases z2 with | cons z2 z3 => cases z3; cases z1; cases z2; exact .inl ⟨_, _, rfl, Post.here q (.int _) p⟩
  · split at p
    · rename_i x ns e
      cases z with
      | cons z1 z2 =>
        cases z2
        obtain ⟨a, rfl, d⟩ := ints_seq (K := X.K) q z1 e
        refine .inr ⟨a, x :: ns, rfl, d, by simp, fun m hm hy => ?_⟩
        have : m = maxL (x :: ns) := by
          obtain ⟨b1, b2, b3⟩ := foldl_max ns x
          have h1 : maxL (x :: ns) ∈ x :: ns := by
            show ns.foldl max x ∈ _
            rcases b1 with b1 | b1
            · rw [b1]; exact List.mem_cons_self
            · exact List.mem_cons_of_mem _ b1
          have h2 := hy _ h1
          have h3 : m ≤ maxL (x :: ns) := by
            rcases List.mem_cons.mp hm with rfl | hm
            · exact b2
            · exact b3 m hm
          omega
        rw [this]
        exact Post.here q (.int _) p
    · exact p.elim
  · exact p.elim
def lockO : Ob → Option Ob
  | .dK kvs => some (.lK kvs)
  | .dT kvs => some (.lT kvs)
  | .dQ ks => some (.lQ ks)
  | _ => none
/-- which: the walked dict's expression, read ahead -/
def eLock (which m : EM) : EM := fun l h => match which l h with
  | .ok (.ref n) _ => (match h[n]? with
    | some o => (match lockO o with
      | some o' => (match m l (h.set n o') with
        | .ok v h' => .ok v (h'.set n o)
        | _ => .bad)
      | none => .bad)
    | none => .bad)
  | _ => .bad
theorem lock_ob {n : Nat} {o o' : Ob} (q : Rel G r h H) (e0 : r.ix[n]? = some a) (hn : h[n]? = some o) (ho : lockO o = some o') :
    ∃ u, H a = some u ∧ Mut (some u) ∧ (∀ o u', u ≠ .frz o u') ∧ (∀ od r2 H2, Ex r H r2 H2 → H2 a = some (.frz od u) → ObR G r2 H2 a o') ∧ ∀ r2 H2, Ex r H r2 H2 → H2 a = some u → ObR G r2 H2 a o := by
  cases q.ob n a o e0 hn with
  | dK h1 h2 => cases ho; exact ⟨_, h1, trivial, fun _ _ z => (nomatch z), fun od r2 H2 e z => .lK z (h2.ex e), fun r2 H2 e z => .dK z (h2.ex e)⟩
  | dT h1 h2 => cases ho; exact ⟨_, h1, trivial, fun _ _ z => (nomatch z), fun od r2 H2 e z => .lT z (h2.ex e), fun r2 H2 e z => .dT z (h2.ex e)⟩
  | dQ h1 h2 h3 => cases ho; exact ⟨_, h1, trivial, fun _ _ z => (nomatch z), fun od r2 H2 e z => .lQ z h2 fun x hx => (h3 x hx).ex e.keep, fun r2 H2 e z => .dQ z h2 fun x hx => (h3 x hx).ex e.keep⟩
  | _ => cases ho
/-- locking and unlocking -/
theorem lock_core {n : Nat} {o o' : Ob} (q : Rel G r h H) (hn : h[n]? = some o) (ho : lockO o = some o') : ∃ a u, H a = some u ∧ Mut (some u) ∧ ∀ od, Ex r H { r with lk := a :: r.lk } (upd H a (.frz od u)) ∧ Rel G { r with lk := a :: r.lk } (h.set n o') (upd H a (.frz od u)) ∧
    ∀ r' h' H', Ext { r with lk := a :: r.lk } (upd H a (.frz od u)) r' H' → Rel G r' h' H' → H' a = some (.frz od u) ∧ Ext r H { r' with lk := r.lk } (upd H' a u) ∧ Rel G { r' with lk := r.lk } (h'.set n o) (upd H' a u) ∧ Ex r' H' { r' with lk := r.lk } (upd H' a u) := by
  obtain ⟨a, e0, ob⟩ := q.adr hn
  obtain ⟨u, hu, mu, nf, lk, ul⟩ := lock_ob q e0 hn ho
  have nfa : ∀ o u', H a ≠ some (.frz o u') := fun o u' z => by rw [hu] at z; cases z; exact nf _ _ rfl
  refine ⟨a, u, hu, mu, fun od => ?_⟩
  have hlt : n < h.length := (List.getElem?_eq_some_iff.mp hn).1
  have x1 : Ex r H { r with lk := a :: r.lk } (upd H a (.frz od u)) := ⟨List.prefix_refl _, fun b w z m => ⟨by
    have hne : b ≠ a := fun ee => m.1 (by rw [ee]; exact List.mem_of_getElem? e0)
    rw [upd_ne hne]; exact z, m⟩⟩
  have q1 : Rel G { r with lk := a :: r.lk } (h.set n o') (upd H a (.frz od u)) := by
    refine ⟨q.nd, by simp [q.len], fun b m => ⟨(q.hid b m).1, ?_⟩, fun m b w h1 h2 => ?_, fun b m => ?_, fun m b w h1 h2 hw => ?_⟩
    · have hne : b ≠ a := fun ee => (q.hid b m).1 (by rw [ee]; exact List.mem_of_getElem? e0)
      rw [upd_ne hne]
      exact (q.hd b m).2
    · have h1 : r.ix[m]? = some b := h1
      by_cases hm : m = n
      · subst hm
        have hb : b = a := by rw [e0] at h1; exact (Option.some.inj h1).symm
        subst hb
        rw [List.getElem?_set_self hlt] at h2
        cases h2
        exact lk od _ _ x1 upd_same
      · rw [List.getElem?_set_ne (Ne.symm hm)] at h2
        refine (q.ob m b w h1 h2).ex x1 ?_
        rw [upd_ne]
        intro ee
        subst ee
        exact hm (nodup_ixA q.nd h1 e0)
    · rcases List.mem_cons.mp m with rfl | m
      · exact ⟨fun z => (q.hid _ z).1 (List.mem_of_getElem? e0), od, u, upd_same⟩
      · exact q.lk_upd nfa b m
    · have h1 : r.ix[m]? = some b := h1
      by_cases hm : m = n
      · subst hm
        have hb : b = a := by rw [e0] at h1; exact (Option.some.inj h1).symm
        rw [hb]; exact List.mem_cons_self
      · rw [List.getElem?_set_ne (Ne.symm hm)] at h2
        exact List.mem_cons_of_mem _ (q.lo m b w h1 h2 hw)
  refine ⟨x1, q1, fun r' h' H' e' q' => ?_⟩
  have ha' : H' a = some (.frz od u) := (e'.lks a List.mem_cons_self).trans upd_same
  have e0' : r'.ix[n]? = some a := pre_get e'.pre e0
  have x2 : Ex r' H' { r' with lk := r.lk } (upd H' a u) := ⟨List.prefix_refl _, fun b w z m => ⟨by
    have hne : b ≠ a := fun ee => m.1 (by rw [ee]; exact List.mem_of_getElem? e0')
    rw [upd_ne hne]; exact z, m⟩⟩
  have x3 : Ex r H { r' with lk := r.lk } (upd H' a u) := (x1.trans e'.toEx).trans x2
  have nlk : ∀ b ∈ r.lk, b ≠ a := fun b m ee => by
    obtain ⟨_, o2, u2, z⟩ := q.lk b m
    exact nfa o2 u2 (ee ▸ z)
  have ext : Ext r H { r' with lk := r.lk } (upd H' a u) := ⟨x3, e'.hid, fun b m => by
    have hne : b ≠ a := fun ee => (q.hid b m).1 (ee ▸ List.mem_of_getElem? e0)
    rw [upd_ne hne]
    exact (e'.hk b m).trans (upd_ne hne), rfl, fun b m => by
    rw [upd_ne (nlk b m)]
    exact (e'.lks b (List.mem_cons_of_mem _ m)).trans (upd_ne (nlk b m))⟩
  have hlt' : n < h'.length := by rw [← q'.len]; exact (List.getElem?_eq_some_iff.mp e0').1
  have q2 : Rel G { r' with lk := r.lk } (h'.set n o) (upd H' a u) := by
    refine ⟨q'.nd, by simp [q'.len], fun b m => ⟨(q'.hid b m).1, ?_⟩, fun m b w h1 h2 => ?_, fun b m => ?_, fun m b w h1 h2 hw => ?_⟩
    · have hne : b ≠ a := fun ee => (q'.hid b m).1 (ee ▸ List.mem_of_getElem? e0')
      rw [upd_ne hne]
      exact (q'.hd b m).2
    · by_cases hm : m = n
      · subst hm
        have : b = a := by
          have h1 : r'.ix[m]? = some b := h1
          rw [e0'] at h1; exact (Option.some.inj h1).symm
        subst this
        rw [List.getElem?_set_self hlt'] at h2
        cases h2
        exact ul _ _ x3 upd_same
      · rw [List.getElem?_set_ne (Ne.symm hm)] at h2
        refine (q'.ob m b w h1 h2).ex x2 ?_
        rw [upd_ne]
        intro ee
        subst ee
        exact hm (nodup_ixA q'.nd h1 e0')
    · have hl2 := q'.lk b (by rw [e'.lkk]; exact List.mem_cons_of_mem _ m)
      refine ⟨hl2.1, ?_⟩
      rw [upd_ne (nlk b m)]
      exact hl2.2
    · have h1 : r'.ix[m]? = some b := h1
      by_cases hm : m = n
      · subst hm
        rw [List.getElem?_set_self hlt'] at h2
        cases h2
        exact absurd hw (by cases o <;> first | (cases ho; done) | simp [isLk])
      · rw [List.getElem?_set_ne (Ne.symm hm)] at h2
        have := q'.lo m b w h1 h2 hw
        rw [e'.lkk] at this
        rcases List.mem_cons.mp this with ee | mm
        · exact absurd (nodup_ixA q'.nd (ee ▸ h1) e0') hm
        · exact mm
  exact ⟨ha', ext, q2, x2⟩
theorem me_lock {which : EM} (he : ME X G W e me) : ME X G W e (eLock which me) := by
  refine ⟨fun pins s σ H Q I ⟨r, h, l, q, hl, p⟩ => (pe_lock he).run pins s σ H Q I ?_⟩
  unfold eLock at p
  split at p
  · rename_i n h0 hw
    split at p
    · rename_i o hn
      split at p
      · rename_i o' ho
        obtain ⟨a, u, hu, mu, co⟩ := lock_core q hn ho
        refine ⟨a, u, hu, mu, fun od => ?_⟩
        obtain ⟨x1, q1, co⟩ := co od
        refine ⟨_, _, l, q1, hl.ex x1, ?_⟩
        cases em : me l (h.set n o') with
        | ok v h' =>
          rw [em] at p
          intro r' H' b e' q' z'
          obtain ⟨ha', ext, q2, x2⟩ := co r' h' H' e' q'
          exact ⟨ha', p _ _ b ext q2 (z'.ex x2)⟩
        | exc c h' => rw [em] at p; exact p.elim
        | bad => rw [em] at p; exact p.elim
      · exact p.elim
    · exact p.elim
  · exact p.elim
/-- the same of a statement -/
def sLock (which : EM) (m : SM) : SM := fun l h => match which l h with
  | .ok (.ref n) _ => (match h[n]? with
    | some o => (match lockO o with
      | some o' => (match m l (h.set n o') with
        | .nx l' h' => .nx l' (h'.set n o)
        | .rt v h' => .rt v (h'.set n o)
        | _ => .bad)
      | none => .bad)
    | none => .bad)
  | _ => .bad
theorem ms_lock {which : EM} {st : Stmt} {m : SM} (he : MS X G W st m) : MS X G W st (sLock which m) := by
  refine ⟨fun pins s σ H D I ⟨r, h, l, q, hl, p⟩ => (ps_lock he).run pins s σ H D I ?_⟩
  unfold sLock at p
  split at p
  · rename_i n h0 hw
    split at p
    · rename_i o hn
      split at p
      · rename_i o' ho
        obtain ⟨a, u, hu, mu, co⟩ := lock_core q hn ho
        refine ⟨a, u, hu, mu, fun od => ?_⟩
        obtain ⟨x1, q1, co⟩ := co od
        refine ⟨_, _, l, q1, hl.ex x1, ?_⟩
        cases em : m l (h.set n o') with
        | nx l' h' =>
          rw [em] at p
          intro r' H' s' e' q' z'
          obtain ⟨ha', ext, q2, x2⟩ := co r' h' H' e' q'
          exact ⟨ha', p _ _ s' ext q2 (z'.ex x2)⟩
        | rt v h' =>
          rw [em] at p
          intro r' H' b e' q' z'
          obtain ⟨ha', ext, q2, x2⟩ := co r' h' H' e' q'
          exact ⟨ha', p _ _ b ext q2 (z'.ex x2)⟩
        | exc c l' h' => rw [em] at p; exact p.elim
        | bad => rw [em] at p; exact p.elim
      · exact p.elim
    · exact p.elim
  · exact p.elim
/-- the keys of a locked dict -/
def keysSrc (v : Val) (h : HM) : Res Src := match v with
  | .ref n => (match h[n]? with
    | some (.lK kvs) => .ok (srcItems (kvs.map fun p => keyV p.1)) h
    | some (.lT kvs) => .ok (srcItems (kvs.map fun p => .tup (p.1.map keyV))) h
    | _ => .bad)
  | _ => .bad
def iKeysA (m : EM) : IM := fun l h => (m l h).bind keysSrc
theorem vr_tkey (ks : List Key) : VRs G r H (ks.map keyV) (ks.map kV) := by
  induction ks with
  | nil => exact .nil
  | cons k ks ih => exact .cons (vr_key k) ih
theorem out_tup (q : Rel G r h H) {p : Addr} {us : List V} (e : H p = some (.tup us)) : r.out p := by
  refine ⟨fun m => ?_, fun m => ?_⟩
  · obtain ⟨n, hn, en⟩ := List.mem_iff_getElem.mp m
    obtain ⟨o, _, ob⟩ := q.at_ (n := n) (a := p) (by simp [hn, en])
    have hne : ∀ {o : HO}, H p = some o → o = .tup us := fun z => by rw [e] at z; exact (Option.some.inj z).symm
    cases ob <;> (have z := hne ‹_›; cases z)
  · obtain ⟨vs, z⟩ := (q.hd p m).2
    rw [e] at z; cases z
theorem paired_get {α β : Type} {R : α → β → Prop} {xs : List α} {ys : List β} (p : Paired R xs ys) : ∀ {i : Nat} {x : α} {y : β}, xs[i]? = some x → ys[i]? = some y → R x y := by
  induction p with
  | nil => intro i x y e; simp at e
  | cons a b ih =>
    intro i x y e1 e2
    cases i with
    | zero => simp at e1 e2; subst e1 e2; exact a
    | succ i => exact ih (by simpa using e1) (by simpa using e2)
variable {tg : Expr}
theorem mi_keys (he : ME X G W e me) : MI X G W tg e (iKeysA me) := by
  refine ⟨fun pins s σ H R I ⟨r, h, l, q, hl, p⟩ => (pi_keys he).run pins s σ H R I ⟨r, h, l, q, hl, (Post.bind p).imp fun x H1 ⟨r1, h1, w1, e1, q1, z1, p1⟩ => ?_⟩⟩
  cases z1 with
  | @ref n a e0 =>
    dsimp only [keysSrc] at p1
    split at p1
    · rename_i kvs hn
      have ml := q1.lo n a _ e0 hn rfl
      cases q1.ob n a _ e0 hn with
      | @lK o _ kv g1 g2 =>
        refine ⟨a, o, rfl, .inl ⟨kv, g1, Post.here q1 (R := SrcR G) (fun r2 H2 h2 ex lk q2 => ?_) p1⟩⟩
        have ea := (lk a ml).trans g1
        have hlen := Paired.length g2
        refine ⟨fun i x hi ex2 => ?_, fun _ => ⟨ea, by show kv.length ≤ (kvs.map _).length; rw [List.length_map]; omega⟩⟩
        have ex2 : (kvs.map fun p => keyV p.1)[i]? = some x := ex2
        simp only [List.getElem?_map, Option.map_eq_some_iff] at ex2
        obtain ⟨kvi, hkv, rfl⟩ := ex2
        have hlt : i < kv.length := by have := (List.getElem?_eq_some_iff.mp hkv).1; omega
        refine ⟨⟨ea, hlt⟩, fun v H3 ⟨e3, k, v', hk, hv⟩ => ?_⟩
        subst e3 hv
        refine ⟨Ext.refl, q2, ?_⟩
        have : kvi.1 = k := by
          have z := paired_get g2 hkv hk
          exact z.1
        rw [this]
        exact vr_key k
    · rename_i kvs hn
      have ml := q1.lo n a _ e0 hn rfl
      cases q1.ob n a _ e0 hn with
      | @lT o _ kv g1 g2 =>
        refine ⟨a, o, rfl, .inr ⟨kv, g1, Post.here q1 (R := SrcR G) (fun r2 H2 h2 ex lk q2 => ?_) p1⟩⟩
        have ea := (lk a ml).trans g1
        have hlen := Paired.length g2
        refine ⟨fun i x hi ex2 => ?_, fun _ => ⟨ea, by show kv.length ≤ (kvs.map _).length; rw [List.length_map]; omega⟩⟩
        have ex2 : (kvs.map fun p => Val.tup (p.1.map keyV))[i]? = some x := ex2
        simp only [List.getElem?_map, Option.map_eq_some_iff] at ex2
        obtain ⟨kvi, hkv, rfl⟩ := ex2
        have hlt : i < kv.length := by have := (List.getElem?_eq_some_iff.mp hkv).1; omega
        refine ⟨⟨ea, hlt⟩, fun v H3 ⟨e3, k, v', p, hk, hv, hp⟩ => ?_⟩
        subst e3 hv
        refine ⟨Ext.refl, q2, ?_⟩
        have : kvi.1 = k := by
          have z := paired_get g2 hkv hk
          exact z.1
        rw [this]
        exact .tup hp (out_tup q2 hp) (vr_tkey k)
    · exact p1.elim
  | _ => exact p1.elim
end
end MM
namespace MM
open PySem L2 PySem.W
abbrev Tri := Val × V × PyData
section
variable {X : Cx} {G : Glob} {W : WX} {r r1 r2 : Ad} {H H1 H2 : Hp} {h h1 : HM} {l : Loc} {s : Shared} {K : PySem.W.Frag} {a : Addr} {xs : List Val} {vs : List V} {n k : Nat} {pos : Pos} {e : Expr} {me : EM}
def dle (a b : Tri) : Bool := dataLe false (fun t : Tri => t.2.2) a b
/-- what may be sorted -/
structure CanSort (ds : List PyData) : Prop where
  al : AllAlike ds
  so : Sortable ds
  len : ds.length ≤ sizeLine
  dep : ∀ d ∈ ds, d.depth ≤ 60
theorem each_tri {pins : List (Addr × Obj)} {σ : St} {X : Cx} (I : Inv X pins σ H s) : ∀ {bs : List Tri} {its : List Value}, Vals (bs.map (·.2.1)) its → (∀ b ∈ bs, Dp X.K H b.2.1 b.2.2) →
    EachIs (fun u (b : Tri) => RelV b.2.1 u) its bs ∧ EachIs (fun u (b : Tri) => ∃ as, Reads s.heap u b.2.2 as) its bs
  | [], its, rv, _ => by
    rw [List.map_nil] at rv
    cases rv
    exact ⟨.nil, .nil⟩
  | b :: bs, its, rv, h => by
    rw [List.map_cons] at rv
    cases rv with
    | cons r1 r2 =>
      obtain ⟨t1, t2⟩ := each_tri I r2 fun b' m => h b' (List.mem_cons_of_mem _ m)
      exact ⟨.cons r1 t1, .cons (Dp.reads I b.2.2 b.2.1 _ (h b List.mem_cons_self) r1) t2⟩
theorem each_vals : ∀ {bs : List Tri} {out : List Value}, EachIs (fun u (b : Tri) => RelV b.2.1 u) out bs → Vals (bs.map (·.2.1)) out
  | _, _, .nil => .nil
  | _, _, .cons a b => .cons a (each_vals b)
def rSortD (K : PySem.W.Frag) : List V → Hp → VK → Prop := fun vs H Q => ∃ (a : Addr) (bs : List Tri), vs = [V.ref a] ∧ SqL K H a (bs.map (·.2.1)) ∧ (∀ b ∈ bs, Dp K H b.2.1 b.2.2) ∧ CanSort (bs.map (·.2.2)) ∧
  ∀ p, H p = none → Q (.ref p) (upd H p (.lst ((bs.mergeSort dle).map (·.2.1))))
theorem cr_sortD (hu : X.A.units + 200 < cLine) : CallR X (.builtin "sorted") (rSortD X.K) := by
  intro pins s σ H vs us Q I r h
  obtain ⟨a, bs, rfl, hs, hd, hc, q⟩ := h
  obtain ⟨its, rv, hl, hz⟩ := I.list hs
  obtain ⟨u, rfl, ru⟩ := vals1 r
  obtain rfl : u = Value.ref a := ru
  obtain ⟨e1, e2⟩ := each_tri I rv hd
  refine sorted_data (β := Tri) (enc := fun t => t.2.2) hl.isList e1 e2 hc.al hc.so (by simpa using hc.len) (fun b m => ?_) fun out ho he => ?_
  · have := hc.dep b.2.2 (List.mem_map.mpr ⟨b, m, rfl⟩)
    omega
  · obtain ⟨ep, he'⟩ := PyProof.Rows.sortedAll_at s.heap its out.toArray
    have rv2 := each_vals he
    have hlen : (((bs.mergeSort dle)).map (·.2.1)).length ≤ sizeLine := by
      rw [List.length_map, List.length_mergeSort]
      simpa using hc.len
    exact ⟨.ref _, upd H (s.heap.objs.size + 1) (.lst ((bs.mergeSort dle).map (·.2.1))), I.laid (t' := s.toks) (fun _ _ => PyProof.Rows.sortedAll_old) (Nat.le_succ _) ⟨hlen, out, ep, rv2, he'⟩, rfl, q _ (I.hok.fresh (Nat.le_succ _))⟩
/-- sorted(d): the keys -/
theorem sort_src {T : String} {ad fp : Addr} {P : Nat → Value → Prop} {OK : Heap → Prop} {pins : List (Addr × Obj)} {σ : St} {Q : VK} {bs : List Tri} (hu : X.A.units + 200 < cLine) (hcalm : X.calm = true) (I : Inv X pins σ H s) (S : PySem.W.KdlSrc X.prog X.w T ad fp bs.length P OK) (ok : OK s.heap)
    (hd : ∀ b ∈ bs, Dp X.K H b.2.1 b.2.2) (hc : CanSort (bs.map (·.2.2))) (hP : ∀ (acc : Array Value), ItemsOf P acc bs.length → Vals (bs.map (·.2.1)) acc.toList) (q : ∀ p, H p = none → Q (.ref p) (upd H p (.lst ((bs.mergeSort dle).map (·.2.1))))) :
    wpAny (model X.prog X.w) X.A (call (.builtin "sorted") [.ref ad]) (EP X pins σ Q) X.xe s := by
  have hlen0 : bs.length ≤ sizeLine := by simpa using hc.len
  refine Calls.call_function_entry PyProof.Rows.kind_sorted PyProof.Rows.plain_sorted PyProof.Rows.entry_sorted (PyProof.Rows.args_sorted1 _) ?_
  unfold Builtin.«sorted»
  refine wpAny_bind (m := checkCount "sorted" 1 1 _) (wpAny_pure ?_)
  refine wpAny_bind (PySem.W.kdu_collect (A := X.A.in1) S (I.ok.hd hcalm) ok hlen0 fun h' tk acc hk hacc => ?_)
  have rv := hP acc hacc
  have hal : acc.toList.length = bs.length := by have := rv.length; rw [List.length_map] at this; exact this.symm
  have I1 : Inv X pins σ H { s with heap := h', toks := tk } := I.kept hk
  obtain ⟨e1, e2⟩ := each_tri I1 rv hd
  refine wpAny_bind (wpAny_newList ?_ (by rw [hal]; exact hlen0))
  have hoL : (h'.push (PyProof.Rows.seqObj "list" acc.toList.toArray 0)).get? h'.objs.size = some (PyProof.Rows.seqObj "list" acc.toList.toArray 0) := Heap.get?_push_size _ rfl
  show wpAny _ _ _ _ _ { s with heap := h'.push (PyProof.Rows.seqObj "list" acc.toList.toArray 0), toks := tk }
  have e3 : EachIs (fun v (b : Tri) => ∃ as, Reads (PySem.W.sortingHeap (h'.push (PyProof.Rows.seqObj "list" acc.toList.toArray 0)) h'.objs.size acc.toList) v b.2.2 as) acc.toList bs := e2.mono fun v b ⟨as, rd⟩ => ⟨as, PyProof.Rows.Reads.keeps (fun b o eo => by
    have hb : b < h'.objs.size := Heap.lt_size eo
    exact PySem.W.sortingHeap_old (Nat.ne_of_lt hb) (Heap.get?_push_of_some _ eo)) rd⟩
  have hS : PySem.W.SortsAt X.prog X.w X.A.in1.in1 { s with heap := PySem.W.sortingHeap (h'.push (PyProof.Rows.seqObj "list" acc.toList.toArray 0)) h'.objs.size acc.toList, toks := tk } (dataKind (PySem.W.sortingHeap (h'.push (PyProof.Rows.seqObj "list" acc.toList.toArray 0)) h'.objs.size acc.toList) (bs.map (·.2.2))) acc.toList := by
    refine SortsAt.data (s := { s with heap := PySem.W.sortingHeap (h'.push (PyProof.Rows.seqObj "list" acc.toList.toArray 0)) h'.objs.size acc.toList, toks := tk }) (PySem.W.each_map (R := fun v d => ∃ as, Reads (PySem.W.sortingHeap (h'.push (PyProof.Rows.seqObj "list" acc.toList.toArray 0)) h'.objs.size acc.toList) v d as) (fun (t : Tri) => t.2.2) e3) hc.al hc.so fun d m => ?_
    have := hc.dep d m
    show X.A.units + 1 + 1 + d.depth < _
    omega
  refine wpAny_bind (wpAny_holding (wpAny_call_entry PyProof.Rows.slot_list_sort ⟨_, hoL, rfl⟩ PyProof.Rows.entry_list_sort
    (PySem.W.list_sort_vals (s := { s with heap := h'.push (PyProof.Rows.seqObj "list" acc.toList.toArray 0), toks := tk }) hoL hS (by rw [hal]; exact hlen0) ⟨_, rfl, ?_⟩) (PyProof.Rows.args_list_sort _)))
  have he := PySem.W.sortVals_data (h' := PySem.W.sortingHeap (h'.push (PyProof.Rows.seqObj "list" acc.toList.toArray 0)) h'.objs.size acc.toList) (enc := fun (t : Tri) => t.2.2) false e1 e3 hc.al
  have rv2 := each_vals he
  obtain ⟨ep, he'⟩ := PyProof.Rows.sortedHeap_at (vs := acc.toList) (out := (sortVals (dataKind (PySem.W.sortingHeap (h'.push (PyProof.Rows.seqObj "list" acc.toList.toArray 0)) h'.objs.size acc.toList) (bs.map (·.2.2))) false acc.toList acc.toList).toArray) hoL
  have hlen : (((bs.mergeSort dle)).map (·.2.1)).length ≤ sizeLine := by
    rw [List.length_map, List.length_mergeSort]
    exact hlen0
  refine wpAny_pure ⟨_, rfl, .ref h'.objs.size, upd H h'.objs.size (.lst ((bs.mergeSort dle).map (·.2.1))), I1.laid (t' := tk) (fun b u e => ?_) (Nat.le_refl _)
    (show ObjOk X.prog X.w _ _ _ (.lst ((bs.mergeSort dle).map (·.2.1))) from ⟨hlen, _, ep, rv2, he'⟩), rfl, q _ (I1.hok.fresh (Nat.le_refl _))⟩
  have hb : b < h'.objs.size := Heap.lt_size e
  rw [PyProof.Rows.sortedHeap_old (Nat.ne_of_lt hb) (by rw [PyProof.Rows.size_push']; exact Nat.lt_succ_of_lt hb)]
  exact Heap.get?_push_of_some _ e
/-- sorted(d) of keys that are ints or texts -/
def rSortK : List V → Hp → VK → Prop := fun vs H Q => ∃ (a : Addr) (kvs : List (Key × V)) (bs : List Tri), vs = [V.ref a] ∧ Rd H a (.dK kvs) ∧ bs.map (·.2.1) = kvs.map (fun p => kV p.1) ∧ (∀ K, ∀ b ∈ bs, Dp K H b.2.1 b.2.2) ∧ CanSort (bs.map (·.2.2)) ∧
  ∀ p, H p = none → Q (.ref p) (upd H p (.lst ((bs.mergeSort dle).map (·.2.1))))
def rSortT : List V → Hp → VK → Prop := fun vs H Q => ∃ (a : Addr) (kvs : List (List Key × V)), vs = [V.ref a] ∧ Rd H a (.dT kvs) ∧ ∀ ads, IsKeys H kvs ads → ∃ bs : List Tri, bs.map (·.2.1) = ads.map V.ref ∧ (∀ K, ∀ b ∈ bs, Dp K H b.2.1 b.2.2) ∧ CanSort (bs.map (·.2.2)) ∧
  ∀ p, H p = none → Q (.ref p) (upd H p (.lst ((bs.mergeSort dle).map (·.2.1))))
theorem cr_sortK (hu : X.A.units + 200 < cLine) (hcalm : X.calm = true) : CallR X (.builtin "sorted") rSortK := by
  intro pins s σ H vs us Q I r h
  obtain ⟨a, kvs, bs, rfl, hd, hb, hdp, hc, q⟩ := h
  obtain ⟨u, rfl, ru⟩ := vals1 r
  obtain rfl : u = Value.ref a := ru
  obtain ⟨z, lo, us, rel, dd⟩ := dk_rd I.hok hd
  obtain ⟨ep, hat⟩ := dd.dictAt
  have hl : bs.length = us.length := by
    have e := congrArg List.length hb
    rw [List.length_map, List.length_map] at e
    rw [e]; exact Paired.length rel
  have S := PySem.W.kdl_dict (prog := X.prog) (w := X.w) (knd := mixKind X.prog X.w) (kvs := us) (ep := ep) lo
  rw [← hl] at S
  refine sort_src (bs := bs) hu hcalm I S hat (hdp X.K) hc (fun acc hacc => ?_) q
  have hk : us.map (fun p => kV p.1) = bs.map (·.2.1) := by
    rw [hb]
    have e := KV.keys rel
    have e3 : (us.map fun kv => kV kv.1) = (us.map (·.1)).map kV := by rw [List.map_map]; rfl
    have e4 : (kvs.map fun kv => kV kv.1) = (kvs.map (·.1)).map kV := by rw [List.map_map]; rfl
    rw [e3, e4, e]
  rw [← hk]
  refine keys_at (by rw [Array.length_toList, hacc.1, hl]) fun j v e => ?_
  obtain ⟨k, x, e1, e2⟩ := hacc.2 j v (by rw [← Array.getElem?_toList]; exact e)
  exact ⟨k, x, e1, e2⟩
theorem cr_sortT (hu : X.A.units + 200 < cLine) (hcalm : X.calm = true) : CallR X (.builtin "sorted") rSortT := by
  intro pins s σ H vs us Q I r h
  obtain ⟨a, kvs, rfl, hd, hb⟩ := h
  obtain ⟨u, rfl, ru⟩ := vals1 r
  obtain rfl : u = Value.ref a := ru
  obtain ⟨z, hs, ks, pr, o, es, ep, ho, hx, hdt, he, hn⟩ := (show ObjOk X.prog X.w H s.heap a (.dT kvs) from hd.ok I.hok)
  have l1 : es.size = ks.length := size_of_entries he
  have l2 : kvs.length = ks.length := Paired.length pr
  obtain ⟨bs, hbs, hdp, hc, q⟩ := hb _ (isKeys_of pr)
  have l3 : bs.length = ks.length := by
    have e := congrArg List.length hbs
    simpa using e
  have S := kdl_raw (prog := X.prog) (w := X.w) (d := a) (o := o) (es := es) (ep := ep) hs hx hdt
  rw [l1, ← l3] at S
  refine sort_src (bs := bs) hu hcalm I S ho (hdp X.K) hc (fun acc it => ?_) q
  have ea : acc.toList = ks.map fun x => Value.ref x.2.1 := by
    have hl : acc.toList.length = ks.length := by rw [Array.length_toList, it.1]; exact l3
    apply List.ext_getElem?
    intro j
    rw [List.getElem?_map]
    cases hj : acc.toList[j]? with
    | none =>
      have h1 := List.getElem?_eq_none_iff.mp hj
      rw [List.getElem?_eq_none (by omega)]
      rfl
    | some v =>
      obtain ⟨en, hen, hv⟩ := it.2 j v (by rw [← Array.getElem?_toList]; exact hj)
      have qe := entry_at he j
      rw [hen] at qe
      cases hb : ks[j]? with
      | none => rw [hb] at qe; cases qe
      | some x =>
        rw [hb] at qe
        have : en = entryOfKey (tupleKind (mixKind X.prog X.w)) x := Option.some.inj qe
        subst this
        subst hv
        rfl
  rw [hbs, ea]
  have := vals_refs (ks.map fun x => x.2.1)
  rw [List.map_map, List.map_map] at this
  rw [List.map_map]
  exact this
noncomputable def sortV (xs : List Val) (ds : List PyData) : List Val := ((xs.zip ds).mergeSort fun a b => dataLe false (fun t : Val × PyData => t.2) a b).map (·.1)
def sortItems (v : Val) (h : HM) : Option (List Val) := match v with
  | .lst xs => some xs
  | .ref n => (match h[n]? with
    | some (.lst xs) => some xs
    | some (.dK kvs) => some (kvs.map fun p => keyV p.1)
    | some (.dT kvs) => some (kvs.map fun p => .tup (p.1.map keyV))
    | _ => none)
  | _ => none
open Classical in
noncomputable def bSorted : BOp := fun xs h => match xs with
  | [v] => (match sortItems v h with
    | some ys => (match datFs ys with
      | some ds => if CanSort ds then .ok (.lst (sortV ys ds)) h else .bad
      | none => .bad)
    | none => .bad)
  | _ => .bad
theorem tri_sort (bs : List Tri) : (bs.mergeSort dle).map (·.1) = sortV (bs.map (·.1)) (bs.map (·.2.2)) := by
  have e : (bs.map (·.1)).zip (bs.map (·.2.2)) = bs.map fun b => (b.1, b.2.2) := by
    induction bs with
    | nil => rfl
    | cons b bs ih => simp [ih]
  unfold sortV
  rw [e, ← List.map_mergeSort (r := dle) (f := fun b : Tri => (b.1, b.2.2)) (fun a _ b _ => rfl), List.map_map]
  rfl
theorem tri_vrs {G : Glob} {r : Ad} {H : Hp} {bs : List Tri} (h : ∀ b ∈ bs, VR G r H b.1 b.2.1) : VRs G r H (bs.map (·.1)) (bs.map (·.2.1)) := by
  induction bs with
  | nil => exact .nil
  | cons b bs ih => exact .cons (h b List.mem_cons_self) (ih fun b' m => h b' (List.mem_cons_of_mem _ m))
theorem tri_of {G : Glob} {r : Ad} {H : Hp} : ∀ {xs : List Val} {us : List V} {ds : List PyData}, VRs G r H xs us → datFs xs = some ds → ∃ bs : List Tri, bs.map (·.1) = xs ∧ bs.map (·.2.1) = us ∧ bs.map (·.2.2) = ds ∧ ∀ b ∈ bs, VR G r H b.1 b.2.1 ∧ ∀ K, Dp K H b.2.1 b.2.2
  | _, _, _, .nil, e => by cases e; exact ⟨[], rfl, rfl, rfl, fun b m => by cases m⟩
  | x :: xs, u :: us, _, .cons a b, e => by
    simp only [datFs] at e
    split at e
    · rename_i d ds' e1 e2
      cases e
      obtain ⟨bs, h1, h2, h3, h4⟩ := tri_of b e2
      refine ⟨(x, u, d) :: bs, by rw [List.map_cons, h1], by rw [List.map_cons, h2], by rw [List.map_cons, h3], fun b' m => ?_⟩
      rcases List.mem_cons.mp m with rfl | m
      · exact ⟨a, fun K => datF_ok a e1⟩
      · exact h4 b' m
    · cases e
theorem tri_fin {G : Glob} {W : WX} {r : Ad} {h : HM} {H : Hp} {σ : St} {Q : VK} {bs : List Tri} {ys : List Val} {ds : List PyData} (q : Rel G r h H) (h1 : bs.map (·.1) = ys) (h3 : bs.map (·.2.2) = ds) (h4 : ∀ b ∈ bs, VR G r H b.1 b.2.1 ∧ ∀ K, Dp K H b.2.1 b.2.2)
    (p : Post G W r H σ (VR G) Q (.ok (.lst (sortV ys ds)) h)) : ∀ p, H p = none → Q (.ref p) (upd H p (.lst ((bs.mergeSort dle).map (·.2.1)))) := fun b n => by
  subst h1 h3
  rw [← tri_sort] at p
  have zz := tri_vrs (bs := bs.mergeSort dle) fun b' m => (h4 b' (List.mem_mergeSort.mp m)).1
  exact p r _ _ (ext_new q n) (q.laid n) (.lst upd_same (q.new n) (zz.ext (ext_new q n)))
theorem tkeys_vrs {G : Glob} {r : Ad} {h : HM} {H : Hp} (q : Rel G r h H) : ∀ {kvs : List (List Key × Val)} {kv : List (List Key × V)} {ads : List Addr}, KR G r H kvs kv → IsKeys H kv ads → VRs G r H (kvs.map fun p => .tup (p.1.map keyV)) (ads.map V.ref)
  | _, _, _, .nil, ha => by cases ha; exact .nil
  | x :: _, y :: _, _, .cons a b, ha => by
    cases ha with
    | cons c d =>
      refine .cons ?_ (tkeys_vrs q b d)
      show VR _ _ _ (.tup (List.map keyV x.1)) _
      rw [a.1]
      exact .tup c (out_tup q c) (vr_tkey _)
theorem cm_sorted (hu : X.A.units + 200 < cLine) (hc : X.calm = true) : CallM X G (.builtin "sorted") bSorted := .of (CallR.or (cr_sortD hu) (CallR.or (cr_sortK hu hc) (cr_sortT hu hc))) fun W σ r h H xs vs Q q z p => by
  unfold bSorted at p
  split at p
  · rename_i v
    cases z with
    | cons z1 z2 =>
      cases z2
      cases ei : sortItems v h with
      | none => rw [ei] at p; exact p.elim
      | some ys =>
        rw [ei] at p
        dsimp only at p
        cases ed : datFs ys with
        | none => rw [ed] at p; exact p.elim
        | some ds =>
          rw [ed] at p
          dsimp only at p
          by_cases hcs : CanSort ds
          · rw [if_pos hcs] at p
            have seq : ∀ {a us}, H a = some (.lst us) → VRs G r H ys us → rSortD X.K [.ref a] H Q := fun {a us} d zz => by
              obtain ⟨bs, h1, h2, h3, h4⟩ := tri_of zz ed
              exact ⟨a, bs, rfl, by rw [h2]; exact .inl (.inl d), fun b m => (h4 b m).2 X.K, by rw [h3]; exact hcs, tri_fin q h1 h3 h4 p⟩
            cases z1 with
            | lst d o zz => cases ei; exact .inl (seq d zz)
            | ref e0 =>
              obtain ⟨o, ho, ob⟩ := q.at_ e0
              simp only [sortItems, ho] at ei
              cases ob with
              | lst g1 g2 => cases ei; exact .inl (seq g1 g2)
              | dK g1 g2 =>
                cases ei
                obtain ⟨bs, h1, h2, h3, h4⟩ := tri_of g2.keysV ed
                exact .inr (.inl ⟨_, _, bs, rfl, .inl g1, h2, fun K b m => (h4 b m).2 K, by rw [h3]; exact hcs, tri_fin q h1 h3 h4 p⟩)
              | @dT kvs kv g1 g2 =>
                cases ei
                refine .inr (.inr ⟨_, kv, rfl, .inl g1, fun ads ha => ?_⟩)
                have zz : VRs G r H (kvs.map fun p => .tup (p.1.map keyV)) (ads.map V.ref) := tkeys_vrs q g2 ha
                obtain ⟨bs, h1, h2, h3, h4⟩ := tri_of zz ed
                exact ⟨bs, h2, fun K b m => (h4 b m).2 K, by rw [h3]; exact hcs, tri_fin q h1 h3 h4 p⟩
              | _ => cases ei
            | _ => cases ei
          · rw [if_neg hcs] at p; exact p.elim
  · exact p.elim
end
end MM
namespace MM
open PySem L2
section
variable {X : Cx} {G : Glob} {W : WX} {r r1 r2 : Ad} {H H1 H2 : Hp} {h h1 : HM} {l : Loc} {K : PySem.W.Frag} {a : Addr} {xs : List Val} {vs : List V} {n k : Nat} {pos : Pos} {e : Expr} {me : EM}
def mergeT (kvs : List (List Key × V)) (more : List (List Key × Addr × V)) : List (List Key × V) := more.foldl (fun acc kv => putK acc kv.1 kv.2.2) kvs
def rDictT (K : PySem.W.Frag) : List V → Hp → VK → Prop := fun xs H Q => ∃ (a : Addr) (ps : List Addr) (kvs : List (List Key × Addr × V)), xs = [.ref a] ∧ SqL K H a (ps.map V.ref) ∧
  Paired (fun p (kv : List Key × Addr × V) => SqT K H p [.ref kv.2.1, kv.2.2] ∧ H kv.2.1 = some (.tup (kv.1.map kV))) ps kvs ∧ ∀ p, H p = none → Q (.ref p) (upd H p (.dT (mergeT [] kvs)))
theorem pairs_ofT {pins : List (Addr × Obj)} {σ : St} {s : Shared} (I : Inv X pins σ H s) : ∀ {ps : List Addr} {kvs : List (List Key × Addr × V)}, Paired (fun p (kv : List Key × Addr × V) => SqT X.K H p [.ref kv.2.1, kv.2.2] ∧ H kv.2.1 = some (.tup (kv.1.map kV))) ps kvs →
    ∃ prs : List (List Key × Addr × Value), Paired (fun (p : List Key × Addr × V) (q : List Key × Addr × Value) => p.1 = q.1 ∧ p.2.1 = q.2.1 ∧ RelV p.2.2 q.2.2) kvs prs ∧ prs.length = ps.length ∧
      (∀ (j : Nat) (q : List Key × Addr × Value), prs[j]? = some q → ∃ b : Addr, ps[j]? = some b ∧ s.heap.IsTuple b #[.ref q.2.1, q.2.2]) ∧ ∀ q ∈ prs, H q.2.1 = some (.tup (q.1.map kV))
  | _, _, .nil => ⟨[], .nil, rfl, fun j q e => by simp at e, fun q m => by cases m⟩
  | p :: _, kv :: _, .cons h t => by
    obtain ⟨prs, r, hl, hp, hk⟩ := pairs_ofT I t
    obtain ⟨its, rv, ht, _⟩ := I.tuple h.1
    obtain ⟨u, y, ei, ru, ry⟩ := vals2 rv
    subst ei
    obtain rfl : u = Value.ref kv.2.1 := ru
    refine ⟨(kv.1, kv.2.1, y) :: prs, .cons ⟨rfl, rfl, ry⟩ r, by rw [List.length_cons, List.length_cons, hl], fun j q e => ?_, fun q m => ?_⟩
    · cases j with
      | zero =>
        have e' : (kv.1, kv.2.1, y) = q := Option.some.inj e
        subst e'
        exact ⟨p, rfl, ht⟩
      | succ j =>
        obtain ⟨b, e1, e2⟩ := hp j q (by simpa using e)
        exact ⟨b, by simpa using e1, e2⟩
    · rcases List.mem_cons.mp m with rfl | m
      · exact h.2
      · exact hk q m
theorem kt_merge : ∀ {kvs : List (List Key × Addr × V)} {prs : List (List Key × Addr × Value)} {acc : List (List Key × V)} {accV : List (List Key × Addr × Value)}, Paired (fun (p : List Key × Addr × V) (q : List Key × Addr × Value) => p.1 = q.1 ∧ p.2.1 = q.2.1 ∧ RelV p.2.2 q.2.2) kvs prs →
    (∀ q ∈ prs, H q.2.1 = some (.tup (q.1.map kV))) → KT H acc accV → KT H (mergeT acc kvs) (storedAllH accV prs)
  | _, _, _, _, .nil, _, ka => ka
  | p :: kvs, q :: prs, acc, accV, .cons a b, hk, ka => by
    have h1 := hk q List.mem_cons_self
    have e1 : p.1 = q.1 := a.1
    have st : KT H (putK acc p.1 p.2.2) (storedH accV q.1 q.2.1 q.2.2) := by
      rw [e1]
      exact ka.put q.1 h1 a.2.2
    exact kt_merge (kvs := kvs) (prs := prs) b (fun x m => hk x (List.mem_cons_of_mem _ m)) st
theorem mergeT_len : ∀ (kvs : List (List Key × Addr × V)) (acc : List (List Key × V)), (mergeT acc kvs).length ≤ acc.length + kvs.length
  | [], acc => Nat.le_refl _
  | p :: kvs, acc => by
    have h1 := mergeT_len kvs (putK acc p.1 p.2.2)
    have h2 := length_putK acc p.1 p.2.2
    show (mergeT (putK acc p.1 p.2.2) kvs).length ≤ _
    simp only [List.length_cons]
    omega
theorem cr_dictT (hc : X.calm = true) (hu : X.A.units + 65 < cLine) : CallR X (.type "dict") (rDictT X.K) := by
  intro pins s σ H xs us Q I rv0 h
  obtain ⟨a, ps, kvs, rfl, hq, hp, q⟩ := h
  obtain ⟨u, rfl, ru⟩ := vals1 rv0
  obtain rfl : u = Value.ref a := ru
  obtain ⟨its, rv, pl, hz⟩ := I.list hq
  have ei := refs_at rv
  subst ei
  rw [List.length_map] at hz
  obtain ⟨prs, rel, hl, hpr, hk⟩ := pairs_ofT I hp
  obtain ⟨o, n, ho, hcl, hdn, hdat⟩ := pl
  have hitems : ∀ j k v, (prs.map fun x => ((Value.ref x.2.1 : Value), x.2.2))[j]? = some (k, v) → (ps.map Value.ref).toArray[j]? = some (.ref (ps.getD j 0)) ∧ PairAt s.heap (ps.getD j 0) k v := by
    intro j k v e
    simp only [List.getElem?_map, Option.map_eq_some_iff] at e
    obtain ⟨q', e1, e2⟩ := e
    obtain ⟨b, e3, e4⟩ := hpr j q' e1
    cases e2
    have : ps.getD j 0 = b := by simp [List.getD, e3]
    rw [this]
    exact ⟨by simp [e3], .inl e4⟩
  refine PySem.call_dict_pairsH (knd := tupleKind (mixKind X.prog X.w)) (ps := prs) (n := (prs.map fun x => ((Value.ref x.2.1 : Value), x.2.2)).length) (PairArg.list a (ps.map Value.ref).toArray (fun j => ps.getD j 0) (prs.map fun x => (.ref x.2.1, x.2.2))) (I.ok.hd hc) (tupleKind_room_in1 (A := X.A.in1) (by show X.A.units + 1 + 1 < _; omega)) ⟨⟨o, n, ho, hcl, hdn, hdat⟩, by simp [hl], hitems⟩ ⟨(List.length_map _).symm, fun i key v e => ?_⟩ (fun h' kk x hx => ?_) (by rw [List.length_map, hl]; exact hz) fun h' tk dd kk => ?_
  · have e : (prs.map fun x => ((Value.ref x.2.1 : Value), x.2.2))[i]? = some (key, v) := e
    simp only [List.getElem?_map, Option.map_eq_some_iff] at e
    obtain ⟨q', e1, e2⟩ := e
    cases e2
    exact ⟨q'.1, q'.2.1, e1, rfl⟩
  · obtain ⟨o', its', n', h1, h2, h3, h4⟩ := key_of (P := X.prog) (w := X.w) I.hok (hk x hx)
    exact ⟨o', its', n', kk _ _ (Nat.ne_of_lt (Heap.lt_size h1)) (by simp) h1, h2, h3, h4⟩
  · have I1 : Inv X pins σ H { s with heap := h', toks := tk } := I.kept fun b o e => kk b o (by simp) e
    have hm : (s.heap.objs.size == sysModules) = false := beq_eq_false_iff_ne.mpr (Nat.ne_of_gt I.big)
    have hlen : (mergeT [] kvs).length ≤ sizeLine := by
      refine Nat.le_trans (mergeT_len kvs []) ?_
      rw [List.length_nil, Nat.zero_add, Paired.length rel, hl]
      exact hz
    have nD := I.hok.fresh (Nat.le_refl s.heap.objs.size)
    obtain ⟨od, es, ep, g1, g2, g3, g4, _, g5⟩ := dd
    refine ⟨.ref s.heap.objs.size, upd H s.heap.objs.size (.dT (mergeT [] kvs)), I.laid (t' := tk) (fun b o e => kk b o (by simp) e) (Nat.le_refl _) (show ObjOk X.prog X.w _ _ _ (.dT (mergeT [] kvs)) from ⟨hlen, hm, _, (kt_merge rel hk .nil).keeps fun c ys ec => ?_, od, es, ep, g1, g2, g3, g4, g5⟩), rfl, q _ nD⟩
    rw [upd_ne (ne_of_none ec nD)]
    exact ec
/-- the pairs, by key -/
def pairsBy {κ : Type} (f : Val → Option κ) : List Val → Option (List (κ × Val))
  | [] => some []
  | x :: xs => match x with
    | .tup [k, y] => (match f k, pairsBy f xs with
      | some kk, some r => some ((kk, y) :: r)
      | _, _ => none)
    | _ => none
def mergeV {κ : Type} [DecidableEq κ] (acc more : List (κ × Val)) : List (κ × Val) := more.foldl (fun acc kv => putV acc kv.1 kv.2) acc
theorem pairsK_ok {ys : List Val} {us : List V} {ps : List (Key × Val)} (z : VRs G r H ys us) (e : pairsBy keyOf ys = some ps) :
    ∃ (ads : List Addr) (kv : List (Key × V)), us = ads.map V.ref ∧ Paired (fun p (kv : Key × V) => SqT K H p [kV kv.1, kv.2]) ads kv ∧ KR G r H ps kv := by
  induction ys generalizing us ps with
  | nil => cases z; cases e; exact ⟨[], [], rfl, .nil, .nil⟩
  | cons y ys ih =>
    cases z with
    | cons z1 z2 =>
      simp only [pairsBy] at e
      split at e
      · rename_i k y'
        split at e
        · rename_i kk rr e1 e2
          cases e
          obtain ⟨ads, kv, rfl, h2, h3⟩ := ih z2 e2
          cases z1 with
          | @tup b vs _ d o zz =>
            cases zz with
            | cons c1 c2 => cases c2 with
              | @cons _ _ v2 _ c2 c3 =>
                cases c3
                have hk := key_V c1 e1
                subst hk
                exact ⟨b :: ads, (kk, v2) :: kv, rfl, .cons (.inl (.inl d)) h2, .cons ⟨rfl, c2⟩ h3⟩
        · cases e
      · cases e
theorem pairsT_ok {ys : List Val} {us : List V} {ps : List (List Key × Val)} (z : VRs G r H ys us) (e : pairsBy tkey ys = some ps) :
    ∃ (ads : List Addr) (kv : List (List Key × Addr × V)), us = ads.map V.ref ∧ Paired (fun p (kv : List Key × Addr × V) => SqT K H p [.ref kv.2.1, kv.2.2] ∧ H kv.2.1 = some (.tup (kv.1.map kV))) ads kv ∧ KR G r H ps (kv.map fun p => (p.1, p.2.2)) := by
  induction ys generalizing us ps with
  | nil => cases z; cases e; exact ⟨[], [], rfl, .nil, .nil⟩
  | cons y ys ih =>
    cases z with
    | cons z1 z2 =>
      simp only [pairsBy] at e
      split at e
      · rename_i k y'
        split at e
        · rename_i kk rr e1 e2
          cases e
          obtain ⟨ads, kv, rfl, h2, h3⟩ := ih z2 e2
          cases z1 with
          | @tup b vs _ d o zz =>
            cases zz with
            | cons c1 c2 => cases c2 with
              | @cons _ _ v2 _ c2 c3 =>
                cases c3
                cases c1 with
                | @tup b2 us2 _ d2 o2 zz2 =>
                  have hk := keys_V zz2 e1
                  subst hk
                  exact ⟨b :: ads, (kk, b2, v2) :: kv, rfl, .cons ⟨.inl (.inl d), d2⟩ h2, .cons ⟨rfl, c2⟩ h3⟩
                | _ => cases e1
        · cases e
      · cases e
theorem merge_KR : ∀ {more : List (Key × Val)} {moreV : List (Key × V)} {acc : List (Key × Val)} {accV : List (Key × V)}, KR G r H more moreV → KR G r H acc accV → KR G r H (mergeV acc more) (mergeK accV moreV)
  | _, _, _, _, .nil, ka => ka
  | p :: more, q :: moreV, acc, accV, .cons a b, ka => by
    have st : KR G r H (putV acc p.1 p.2) (putK accV q.1 q.2) := by rw [← a.1]; exact ka.put p.1 a.2
    exact merge_KR (more := more) (moreV := moreV) b st
theorem merge_KRT : ∀ {more : List (List Key × Val)} {moreV : List (List Key × Addr × V)} {acc : List (List Key × Val)} {accV : List (List Key × V)}, KR G r H more (moreV.map fun p => (p.1, p.2.2)) → KR G r H acc accV → KR G r H (mergeV acc more) (mergeT accV moreV)
  | [], [], _, _, _, ka => ka
  | p :: more, q :: moreV, acc, accV, .cons a b, ka => by
    have st : KR G r H (putV acc p.1 p.2) (putK accV q.1 q.2.2) := by
      have := a.1
      dsimp only at this
      rw [← this]; exact ka.put p.1 a.2
    exact merge_KRT (more := more) (moreV := moreV) b st
def bDictK : BOp := fun xs h => match xs with
  | [.ref n] => (match h[n]? with
    | some (.dK kvs) => .ok (.ref h.length) (h ++ [.dK kvs])
    | some (.lst ys) => (match pairsBy keyOf ys with
      | some ps => .ok (.ref h.length) (h ++ [.dK (mergeV [] ps)])
      | none => .bad)
    | _ => .bad)
  | [.lst ys] => (match pairsBy keyOf ys with
    | some ps => .ok (.ref h.length) (h ++ [.dK (mergeV [] ps)])
    | none => .bad)
  | _ => .bad
def bDictT : BOp := fun xs h => match xs with
  | [v] => (match (seqL v h).bind (pairsBy tkey) with
    | some ps => .ok (.ref h.length) (h ++ [.dT (mergeV [] ps)])
    | none => .bad)
  | _ => .bad
theorem cm_dictK (hc : X.calm = true) : CallM X G (.type "dict") bDictK := .of (CallR.or (call_dictP hc) call_dictD) fun W σ r h H xs vs Q q z p => by
  have gen : ∀ {a : Addr} {us : List V} {ys : List Val}, H a = some (.lst us) → VRs G r H ys us → ∀ ps, pairsBy keyOf ys = some ps → Post G W r H σ (VR G) Q (.ok (.ref h.length) (h ++ [.dK (mergeV [] ps)])) →
      (∃ (a' : Addr) (ps : List Addr) (kvs : List (Key × V)), [V.ref a] = [V.ref a'] ∧ SqL X.K H a' (ps.map V.ref) ∧ Paired (fun p kv => SqT X.K H p [kV kv.1, kv.2]) ps kvs ∧ ∀ p, H p = none → Q (.ref p) (upd H p (.dK (mergeK [] kvs)))) := by
    intro a us ys d zz ps e p
    obtain ⟨ads, kv, rfl, h2, h3⟩ := pairsK_ok (K := X.K) zz e
    exact ⟨a, ads, kv, rfl, .inl (.inl d), h2, fun b n => post_alloc q n (.dK upd_same ((merge_KR h3 .nil).ext (ext_alloc q n))) p⟩
  unfold bDictK at p
  split at p
  · rename_i n
    cases z with
    | cons z1 z2 =>
      cases z2
      cases z1 with
      | ref e0 =>
        split at p
        · rename_i kvs hn
          cases q.ob n _ _ e0 hn with
          | dK g1 g2 => exact .inr ⟨_, _, rfl, .inl g1, fun b n => post_alloc q n (.dK upd_same (g2.ext (ext_alloc q n))) p⟩
        · rename_i ys hn
          split at p
          · rename_i ps e
            cases q.ob n _ _ e0 hn with
            | lst g1 g2 => exact .inl (gen g1 g2 ps e p)
          · exact p.elim
        · exact p.elim
  · rename_i ys
    cases z with
    | cons z1 z2 =>
      cases z2
      cases z1 with
      | lst d o zz =>
        split at p
        · rename_i ps e
          exact .inl (gen d zz ps e p)
        · exact p.elim
  · exact p.elim
theorem cm_dictT (hc : X.calm = true) (hu : X.A.units + 65 < cLine) : CallM X G (.type "dict") bDictT := .of (cr_dictT hc hu) fun W σ r h H xs vs Q q z p => by
  unfold bDictT at p
  split at p
  · rename_i v
    split at p
    · rename_i ps e
      cases z with
      | cons z1 z2 =>
        cases z2
        cases es : seqL v h with
        | none => rw [es] at e; cases e
        | some ys =>
          rw [es] at e
          obtain ⟨a, us, rfl, d, zz⟩ := seqL_ok q z1 es
          obtain ⟨ads, kv, rfl, h2, h3⟩ := pairsT_ok (K := X.K) zz e
          exact ⟨a, ads, kv, rfl, .inl (.inl d), h2, fun b n => post_alloc q n (.dT upd_same ((merge_KRT h3 .nil).ext (ext_alloc q n))) p⟩
    · exact p.elim
  · exact p.elim
mutual
/-- the value that a datum reads as -/
def ofD : PyData → Val
  | .none => .non
  | .bool b => .bl b
  | .int i => .int i
  | .str x => .str x
  | .list xs => .lst (ofDs xs)
  | .tuple xs => .tup (ofDs xs)
  | .dict _ => .non
def ofDs : List PyData → List Val
  | [] => []
  | x :: xs => ofD x :: ofDs xs
end
mutual
/-- no pinned tuple within -/
def noP : Val → Bool
  | .tup xs => noPs xs
  | .lst xs => noPs xs
  | .ptup _ => false
  | _ => true
def noPs : List Val → Bool
  | [] => true
  | x :: xs => noP x && noPs xs
end
end
open Classical in
noncomputable def vDfl (m : PyData → List PyData → PyData) (v d : Val) (h : HM) : Res Val := match seqL v h with
  | some xs => (match datFs xs with
    | some [] => .ok d h
    | some (y :: ys) => if PySem.W.AlikeAll (y :: ys) ∧ SeqAt.shaped (.list (y :: ys)) = true ∧ noPs xs = true then .ok (ofD (m y ys)) h else .bad
    | none => .bad)
  | none => .bad
noncomputable def eDfl (m : PyData → List PyData → PyData) (a d : EM) : EM := fun l h => (a l h).bind fun x h1 => (d l h1).bind fun y h2 => vDfl m x y h2
end MM
namespace MM
open PySem L2
end MM
namespace MM
open PySem L2
section
variable {X : Cx} {G : Glob} {W : WX} {r : Ad} {H : Hp} {a1 : Expr} {me : EM} {pos p p2 pos2 : Pos}
def eListRangeM (m : EM) : EM := fun l h => (m l h).bind fun v h1 => match v with
  | .int j => if -(2 ^ 61) ≤ j ∧ j ≤ 16777216 then .ok (.ref h1.length) (h1 ++ [.lst (intsV 0 j.toNat)]) else .bad
  | _ => .bad
theorem vrs_ints : ∀ (xs : List Int), VRs G r H (xs.map Val.int) (xs.map V.int)
  | [] => .nil
  | x :: xs => .cons (.int x) (vrs_ints xs)
theorem vrs_rg (j : Int) : VRs G r H (intsV 0 j.toNat) (rgV 0 j) := by
  have e1 : intsV 0 j.toNat = ((List.range j.toNat).map fun (i : Nat) => (0 + (i : Nat) : Int)).map Val.int := by simp [intsV]
  have e2 : rgV 0 j = ((List.range j.toNat).map fun (i : Nat) => (0 + (i : Nat) : Int)).map V.int := by
    unfold rgV
    rw [Int.sub_zero, List.map_map]
    rfl
  rw [e1, e2]
  exact vrs_ints _
theorem me_listRangeM (hg : Gl X "list") (hm : X.mg "list" = none) (hm2 : X.mg "range" = none) (ha : ME X G W a1 me) (hg2 : Gl X "range" := by rfl) (hc : X.calm = true := by rfl)
    (na : starEach [a1] X.env = (false, eval a1 X.env) :: starEach [] X.env := by rfl) (na2 : starEach [(Expr.Call (.Name "range" p2) [a1] [] pos2)] X.env = (false, eval (Expr.Call (.Name "range" p2) [a1] [] pos2) X.env) :: starEach [] X.env := by rfl) :
    ME X G W (.Call (.Name "list" p) [.Call (.Name "range" p2) [a1] [] pos2] [] pos) (eListRangeM me) := by
  refine ⟨fun pins s σ H Q I ⟨r, h, l, q, hl, pp⟩ => (pe_listRg hc hg hm (prg_1 hg2 hm2 ha na) na2).run pins s σ H Q I ⟨r, h, l, q, hl, (Post.bind pp).imp fun x H1 ⟨r1, h1, w1, e1, q1, z1, p1⟩ => ?_⟩⟩
  cases z1 with
  | int j =>
    dsimp only at p1
    split at p1
    · rename_i hj
      refine ⟨j, rfl, ⟨by decide, by decide, by omega, by omega, by omega⟩, fun b n => post_alloc q1 n (.lst upd_same (vrs_rg j)) p1⟩
    · exact p1.elim
  | _ => exact p1.elim
end
end MM
namespace MM
open PySem L2
section
variable {l : Loc} {h h1 : HM} {v : Val} {i n : Nat}
@[simp] theorem ev_C : eC v l h = .ok v h := (rfl)
@[simp] theorem ev_Var0 : eVar 0 (some v :: l) h = .ok v h := (rfl)
@[simp] theorem ev_VarS {x : Option Val} : eVar (i + 1) (x :: l) h = eVar i l h := (rfl)
@[simp] theorem ev_e2 {g : VOp} {a b : EM} : e2 g a b l h = (a l h).bind fun x h1 => (b l h1).bind fun y h2 => g x y h2 := (rfl)
@[simp] theorem ev_tOf {m : EM} : tOf m l h = (m l h).bind toB := (rfl)
@[simp] theorem ev_tTru {m : EM} : tTru m l h = (m l h).bind truV := (rfl)
@[simp] theorem ev_toB {b : Bool} : toB (.bl b) h = .ok b h := (rfl)
@[simp] theorem ev_truB {b : Bool} : truV (.bl b) h = .ok b h := (rfl)
@[simp] theorem ev_truL {xs : List Val} : truV (.lst xs) h = .ok (!xs.isEmpty) h := (rfl)
@[simp] theorem ev_truT {xs : List Val} : truV (.tup xs) h = .ok (!xs.isEmpty) h := (rfl)
@[simp] theorem ev_tAnd {a b : TM} : tAndM a b l h = (a l h).bind fun c h1 => if c = true then b l h1 else .ok false h1 := (rfl)
@[simp] theorem ev_tOr {a b : TM} : tOrM a b l h = (a l h).bind fun c h1 => if c = true then .ok true h1 else b l h1 := (rfl)
@[simp] theorem ev_tNot {a : TM} : tNotM a l h = (a l h).bind fun c h1 => .ok (!c) h1 := (rfl)
@[simp] theorem ev_eAnd {a b : EM} : eAndM a b l h = (a l h).bind fun x h1 => (toB x h1).bind fun c h2 => if c = true then b l h2 else .ok (.bl false) h2 := (rfl)
@[simp] theorem ev_eOr {a b : EM} : eOrM a b l h = (a l h).bind fun x h1 => (toB x h1).bind fun c h2 => if c = true then .ok (.bl true) h2 else b l h2 := (rfl)
@[simp] theorem ev_eNot {a : EM} : eNotM a l h = (a l h).bind fun x h1 => (truV x h1).bind fun c h2 => .ok (.bl (!c)) h2 := (rfl)
@[simp] theorem ev_eIf {t : TM} {a b : EM} : eIfM t a b l h = (t l h).bind fun c h1 => if c = true then a l h1 else b l h1 := (rfl)
@[simp] theorem ev_aNil : aNil l h = .ok [] h := (rfl)
@[simp] theorem ev_aCons {a : EM} {t : AM} : aCons a t l h = (a l h).bind fun x h1 => (t l h1).bind fun xs h2 => .ok (x :: xs) h2 := (rfl)
@[simp] theorem ev_eDisp {mk : List Val → HM → Res Val} {m : AM} : eDisp mk m l h = (m l h).bind mk := (rfl)
@[simp] theorem ev_mkTup {xs : List Val} (hz : xs.length ≤ 1000) : mkTup xs h = .ok (.tup xs) h := if_pos (by rw [sizeLine_eq]; omega)
@[simp] theorem ev_mkLst {xs : List Val} (hz : xs.length ≤ 1000) : mkLst xs h = .ok (.lst xs) h := if_pos (by rw [sizeLine_eq]; omega)
@[simp] theorem ev_mkRef {xs : List Val} (hz : xs.length ≤ 1000) : mkRef xs h = .ok (.ref h.length) (h ++ [.lst xs]) := if_pos (by rw [sizeLine_eq]; omega)
@[simp] theorem ev_eCall {m : FM} {as : AM} : eCall m as l h = (as l h).bind m := (rfl)
@[simp] theorem ev_eBi {g : BOp} {m : AM} : eBi g m l h = (m l h).bind g := (rfl)
@[simp] theorem ev_sNil : sNil l h = .nx l h := (rfl)
@[simp] theorem ev_sSeq {a b : SM} : sSeq a b l h = match a l h with | .nx l1 h1 => b l1 h1 | x => x := (rfl)
@[simp] theorem ev_sDrop {m : EM} : sDrop m l h = (m l h).thn l fun _ h1 => .nx l h1 := (rfl)
@[simp] theorem ev_sRet {m : EM} : sRet m l h = (m l h).thn l fun v h1 => .rt v h1 := (rfl)
@[simp] theorem ev_sIf {t : TM} {a b : SM} : sIf t a b l h = (t l h).thn l fun c h1 => if c = true then a l h1 else b l h1 := (rfl)
@[simp] theorem ev_sAsg {m : EM} {g : GM} : sAsg m g l h = (m l h).thn l fun x h1 => match g x l with | some l1 => .nx l1 h1 | none => .bad := (rfl)
@[simp] theorem ev_gNm0 {x : Option Val} : gNm 0 v (x :: l) = some (some v :: l) := (rfl)
@[simp] theorem ev_gNmS {x : Option Val} : gNm (i + 1) v (x :: l) = (gNm i v l).map (x :: ·) := (rfl)
@[simp] theorem ev_gsNil : gsNil [] l = some l := (rfl)
@[simp] theorem ev_gsCons {g : GM} {t : GsM} {xs : List Val} : gsCons g t (v :: xs) l = (g v l).bind fun l1 => t xs l1 := (rfl)
@[simp] theorem ev_gTp {gs : GsM} {xs : List Val} : gTp n gs (.tup xs) l = if xs.length = n then gs xs l else none := (rfl)
@[simp] theorem ev_sFor {ms : IM} {g : GM} {b : SM} : sFor ms g b l h = (ms l h).thn l fun src h1 => forL src g b src.len 0 l h1 := (rfl)
@[simp] theorem ev_iArgs {f : List Val → HM → Res Src} {m : AM} : iArgs f m l h = (m l h).bind f := (rfl)
@[simp] theorem ev_iVal {m : EM} : iVal m l h = (m l h).bind srcOf := (rfl)
@[simp] theorem ev_eLc {mi : IM} {g : GM} {tt : TM} {te : EM} {vs : List Nat} {mk : List Val → HM → Res Val} : eLc mi g tt te vs mk l h = (mi l h).bind fun src h1 => (lcL src g tt te (wipeL l vs) src.len 0 h1 []).bind mk := (rfl)
@[simp] theorem ev_frozen {xs : List Val} : frozen xs h = .ok (.lst xs) h := (rfl)
@[simp] theorem ev_tYes : tYesM l h = .ok true h := (rfl)
@[simp] theorem ev_eBm {T : Kd} {g : MOp} {mo : EM} {ma : AM} : eBm T g mo ma l h = (mo l h).bind fun o h1 => if isKd T o h1 = true then (ma l h1).bind fun xs h2 => g o xs h2 else .bad := (rfl)
@[simp] theorem ev_kdS {x : Str} : isKd .str (.str x) h = true := (rfl)
@[simp] theorem ev_eSl {m : EM} {lo hi : OM} : eSl m lo hi l h = (m l h).bind fun x h1 => (lo l h1).bind fun a h2 => (hi l h2).bind fun b h3 => vSl x a b h3 := (rfl)
@[simp] theorem ev_oNone : oNone l h = .ok none h := (rfl)
@[simp] theorem ev_oSome {m : EM} : oSome m l h = (m l h).bind fun v h1 => match v with | .int i => .ok (some i) h1 | _ => .bad := (rfl)
@[simp] theorem ev_eCh {g g' : VOp} {a b c : EM} : eChM g g' a b c l h = (a l h).bind fun x h1 => (b l h1).bind fun y h2 => (g x y h2).bind fun z h3 => (toB z h3).bind fun k h4 => if k = true then (c l h4).bind fun w h5 => g' y w h5 else .ok (.bl false) h4 := (rfl)
@[simp] theorem ev_addI {a b : Int} : vAdd (.int a) (.int b) h = .ok (.int (a + b)) h := (rfl)
@[simp] theorem ev_subI {a b : Int} : vSub (.int a) (.int b) h = .ok (.int (a - b)) h := (rfl)
@[simp] theorem ev_ltI {a b : Int} : vLt (.int a) (.int b) h = .ok (.bl (decide (a < b))) h := (rfl)
@[simp] theorem ev_leI {a b : Int} : vLe (.int a) (.int b) h = .ok (.bl (decide (a ≤ b))) h := (rfl)
@[simp] theorem ev_gtI {a b : Int} : vGt (.int a) (.int b) h = .ok (.bl (decide (b < a))) h := (rfl)
@[simp] theorem ev_geI {a b : Int} : vGe (.int a) (.int b) h = .ok (.bl (decide (b ≤ a))) h := (rfl)
theorem ev_modI {a b : Int} (hb : 0 < b) : vMod (.int a) (.int b) h = .ok (.int (a % b)) h := if_pos hb
theorem ev_mulI {a b : Int} (hb : (-(2 ^ 64) < a ∧ a < 2 ^ 64) ∨ (-(2 ^ 64) < b ∧ b < 2 ^ 64)) : vMul (.int a) (.int b) h = .ok (.int (a * b)) h := if_pos hb
@[simp] theorem ev_eqI {a b : Int} : vEq (.int a) (.int b) h = .ok (.bl (decide (a = b))) h := by
  have e : PyData.eqv (.int a) (.int b) = decide (a = b) := by
    show (a == b) = _
    by_cases e : a = b <;> simp [e]
  show (if (SeqAt.shaped (.int a) && SeqAt.shaped (.int b)) = true then (Res.ok (Val.bl (PyData.eqv (.int a) (.int b))) h : Res Val) else .bad) = _
  rw [e]
  rfl
@[simp] theorem ev_isNonB {b : Bool} : vIsNot (.bl b) .non h = .ok (.bl true) h := (rfl)
@[simp] theorem ev_isBB {a b : Bool} : vIs (.bl a) (.bl b) h = .ok (.bl (decide (a = b))) h := (rfl)
@[simp] theorem ev_isNotBB {a b : Bool} : vIsNot (.bl a) (.bl b) h = .ok (.bl (!decide (a = b))) h := (rfl)
@[simp] theorem ev_rng1 {j : Int} (hj : -(2 ^ 62) ≤ j ∧ j < 2 ^ 62) : rng1 [.int j] h = .ok (srcItems (intsV 0 j.toNat)) h := if_pos hj
theorem ev_lenS {x : Str} (hz : x.length ≤ sizeLine) : bLen [.str x] h = .ok (.int x.length) h := by simp [bLen, lenN, hz]
@[simp] theorem ev_lenL {xs : List Val} : bLen [.lst xs] h = .ok (.int xs.length) h := (rfl)
@[simp] theorem ev_lenT {xs : List Val} : bLen [.tup xs] h = .ok (.int xs.length) h := (rfl)
@[simp] theorem ev_lenScr {xs : List Int} : bLen [.scr xs] h = .ok (.int xs.length) h := (rfl)
end
/-- a comprehension over what stands: each turn tells whether, and what -/
theorem lc_pure {xs : List Val} {g : GM} {tt : TM} {te : EM} {l : Loc} {h : HM} (f : Val → Option Val) (hf : ∀ x ∈ xs, ∃ l1, g x l = some l1 ∧ ((f x = none ∧ tt l1 h = .ok false h) ∨ ∃ y, f x = some y ∧ tt l1 h = .ok true h ∧ te l1 h = .ok y h)) (hl : xs.length ≤ sizeLine) :
    lcL (srcItems xs) g tt te l (srcItems xs).len 0 h [] = .ok (xs.filterMap f) h := by
  have gen : ∀ (n i : Nat) (acc : List Val), i + n = xs.length → acc.length ≤ i → lcL (srcItems xs) g tt te l n i h acc = .ok (acc ++ (xs.drop i).filterMap f) h := by
    intro n
    induction n with
    | zero =>
      intro i acc hi ha
      have : xs.drop i = [] := List.drop_eq_nil_of_le (by omega)
      simp [lcL, this, srcItems]
    | succ n ih =>
      intro i acc hi ha
      have hlt : i < xs.length := by omega
      have hg : (srcItems xs).get i h = some xs[i] := by simp [srcItems, hlt]
      have hd : xs.drop i = xs[i] :: xs.drop (i + 1) := List.drop_eq_getElem_cons hlt
      obtain ⟨l1, e1, hh⟩ := hf xs[i] (List.getElem_mem hlt)
      simp only [lcL, hg, e1]
      rcases hh with ⟨e2, e3⟩ | ⟨y, e2, e3, e4⟩
      · rw [e3]
        simp only
        rw [ih (i + 1) acc (by omega) (by omega), hd, List.filterMap_cons, e2]
      · rw [e3]
        simp only
        rw [e4]
        simp only
        rw [if_pos (by omega), ih (i + 1) (acc ++ [y]) (by omega) (by simp; omega), hd, List.filterMap_cons, e2]
        simp
  have := gen xs.length 0 [] (by omega) (Nat.le_refl _)
  rw [List.nil_append, List.drop_zero] at this
  exact this
theorem lc_map {xs : List Val} {g : GM} {te : EM} {l : Loc} {h : HM} (f : Val → Val) (hf : ∀ x ∈ xs, ∃ l1, g x l = some l1 ∧ te l1 h = .ok (f x) h) (hl : xs.length ≤ sizeLine) :
    lcL (srcItems xs) g tYesM te l (srcItems xs).len 0 h [] = .ok (xs.map f) h := by
  rw [lc_pure (fun x => some (f x)) (fun x hx => ?_) hl]
  · simp
  · obtain ⟨l1, a, b⟩ := hf x hx
    exact ⟨l1, a, .inr ⟨_, rfl, rfl, b⟩⟩
/-- the same over coded things -/
theorem lc_pureM {α : Type} {xs : List α} {e : α → Val} {g : GM} {tt : TM} {te : EM} {l : Loc} {h : HM} (f : α → Option Val) (hf : ∀ x ∈ xs, ∃ l1, g (e x) l = some l1 ∧ ((f x = none ∧ tt l1 h = .ok false h) ∨ ∃ y, f x = some y ∧ tt l1 h = .ok true h ∧ te l1 h = .ok y h)) (hl : xs.length ≤ sizeLine) :
    lcL (srcItems (xs.map e)) g tt te l (srcItems (xs.map e)).len 0 h [] = .ok (xs.filterMap f) h := by
  have gen : ∀ (n i : Nat) (acc : List Val), i + n = xs.length → acc.length ≤ i → lcL (srcItems (xs.map e)) g tt te l n i h acc = .ok (acc ++ (xs.drop i).filterMap f) h := by
    intro n
    induction n with
    | zero =>
      intro i acc hi ha
      have : xs.drop i = [] := List.drop_eq_nil_of_le (by omega)
      simp [lcL, this, srcItems]
    | succ n ih =>
      intro i acc hi ha
      have hlt : i < xs.length := by omega
      have hg : (srcItems (xs.map e)).get i h = some (e xs[i]) := by simp [srcItems, hlt]
      have hd : xs.drop i = xs[i] :: xs.drop (i + 1) := List.drop_eq_getElem_cons hlt
      obtain ⟨l1, e1, hh⟩ := hf xs[i] (List.getElem_mem hlt)
      simp only [lcL, hg, e1]
      rcases hh with ⟨e2, e3⟩ | ⟨y, e2, e3, e4⟩
      · rw [e3]
        simp only
        rw [ih (i + 1) acc (by omega) (by omega), hd, List.filterMap_cons, e2]
      · rw [e3]
        simp only
        rw [e4]
        simp only
        rw [if_pos (by omega), ih (i + 1) (acc ++ [y]) (by omega) (by simp; omega), hd, List.filterMap_cons, e2]
        simp
  have := gen xs.length 0 [] (by omega) (Nat.le_refl _)
  rw [List.nil_append, List.drop_zero] at this
  have e2 : (srcItems (xs.map e)).len = xs.length := by simp [srcItems]
  rw [e2]
  exact this
theorem lc_mapM {α : Type} {xs : List α} {e : α → Val} {g : GM} {te : EM} {l : Loc} {h : HM} (f : α → Val) (hf : ∀ x ∈ xs, ∃ l1, g (e x) l = some l1 ∧ te l1 h = .ok (f x) h) (hl : xs.length ≤ sizeLine) :
    lcL (srcItems (xs.map e)) g tYesM te l (srcItems (xs.map e)).len 0 h [] = .ok (xs.map f) h := by
  rw [lc_pureM (fun x => some (f x)) (fun x hx => ?_) hl]
  · simp
  · obtain ⟨l1, a, b⟩ := hf x hx
    exact ⟨l1, a, .inr ⟨_, rfl, rfl, b⟩⟩
/-- [e x for x in xs if p x] -/
theorem lc_filterM {α : Type} {xs : List α} {e : α → Val} {g : GM} {tt : TM} {te : EM} {l : Loc} {h : HM} (p : α → Bool) (f : α → Val) (hf : ∀ x ∈ xs, ∃ l1, g (e x) l = some l1 ∧ tt l1 h = .ok (p x) h ∧ (p x = true → te l1 h = .ok (f x) h)) (hl : xs.length ≤ sizeLine) :
    lcL (srcItems (xs.map e)) g tt te l (srcItems (xs.map e)).len 0 h [] = .ok ((xs.filter p).map f) h := by
  rw [lc_pureM (fun x => if p x = true then some (f x) else none) (fun x hx => ?_) hl]
  · congr 1
    clear hf hl
    induction xs with
    | nil => rfl
    | cons x xs ih => by_cases hp : p x = true <;> simp [hp, ih]
  · obtain ⟨l1, a, b, c⟩ := hf x hx
    refine ⟨l1, a, ?_⟩
    by_cases hp : p x = true
    · exact .inr ⟨f x, by simp [hp], by rw [b, hp], c hp⟩
    · exact .inl ⟨by simp [hp], by rw [b]; simp [hp]⟩
/-- the same over places -/
theorem lc_range {lo : Int} {n : Nat} {g : GM} {te : EM} {l : Loc} {h : HM} (f : Nat → Val) (hf : ∀ i, i < n → ∃ l1, g (.int (lo + (i : Nat))) l = some l1 ∧ te l1 h = .ok (f i) h) (hl : n ≤ sizeLine) :
    lcL (srcItems (intsV lo n)) g tYesM te l (srcItems (intsV lo n)).len 0 h [] = .ok ((List.range n).map f) h := by
  have gen : ∀ (k i : Nat) (acc : List Val), i + k = n → acc.length = i → lcL (srcItems (intsV lo n)) g tYesM te l k i h acc = .ok (acc ++ ((List.range n).drop i).map f) h := by
    intro k
    induction k with
    | zero =>
      intro i acc hi ha
      have : (List.range n).drop i = [] := List.drop_eq_nil_of_le (by simp; omega)
      simp [lcL, this, srcItems]
    | succ k ih =>
      intro i acc hi ha
      have hlt : i < n := by omega
      have hg : (srcItems (intsV lo n)).get i h = some (.int (lo + (i : Nat))) := by simp [srcItems, intsV, hlt]
      have hd : (List.range n).drop i = i :: (List.range n).drop (i + 1) := by
        rw [List.drop_eq_getElem_cons (by simpa using hlt)]; simp
      obtain ⟨l1, e1, e2⟩ := hf i hlt
      simp only [lcL, hg, e1, tYesM, e2]
      rw [if_pos (by omega), ih (i + 1) _ (by omega) (by simp [ha]), hd]
      simp
  have := gen n 0 [] (by omega) rfl
  have e : (srcItems (intsV lo n)).len = n := by simp [srcItems, intsV]
  rw [e]
  simpa using this
/-- a loop with an invariant, that goes through -/
theorem for_inv {xs : List Val} {g : GM} {b : SM} {l : Loc} {h : HM} (I : Nat → Loc → HM → Prop) (h0 : I 0 l h)
    (hs : ∀ i x l h, xs[i]? = some x → I i l h → ∃ l1 l2 h2, g x l = some l1 ∧ b l1 h = .nx l2 h2 ∧ I (i + 1) l2 h2) :
    ∃ l' h', forL (srcItems xs) g b (srcItems xs).len 0 l h = .nx l' h' ∧ I xs.length l' h' := by
  have gen : ∀ (n i : Nat) (l : Loc) (h : HM), i + n = xs.length → I i l h → ∃ l' h', forL (srcItems xs) g b n i l h = .nx l' h' ∧ I xs.length l' h' := by
    intro n
    induction n with
    | zero =>
      intro i l h hi hI
      have : i = xs.length := by omega
      subst this
      exact ⟨l, h, by simp [forL, srcItems], hI⟩
    | succ n ih =>
      intro i l h hi hI
      have hlt : i < xs.length := by omega
      have hg : (srcItems xs).get i h = some xs[i] := by simp [srcItems, hlt]
      obtain ⟨l1, l2, h2, e1, e2, hI2⟩ := hs i xs[i] l h (by simp [hlt]) hI
      simp only [forL, hg, e1, e2]
      exact ih (i + 1) l2 h2 (by omega) hI2
  exact gen xs.length 0 l h (by omega) h0
end MM
namespace MM
open PySem L2
def m_law_cell : FM := mF 2 (sSeq (sIf (tOf (e2 vLt (eVar 1) (eBi bLen (aCons (eVar 0) (aNil))))) (sRet (e2 vIx (eVar 0) (eVar 1))) (sNil))
  (sRet (eC (.int 0))))
def m_law_mix : FM := mF 3 (sRet (e2 vMod (e2 vMod (e2 vMul (eVar 0) (eC (.int 48271))) (eVar 1)) (eVar 2)))
def m_law_name : FM := mF 4 (sSeq (sAsg (eC (.str "abcdefghijklmnopqrstuvwxyz")) (gNm 1))
  (sSeq (sAsg (e2 vAdd (eC (.int 1)) (eCall m_law_mix (aCons (eVar 0) (aCons (eC (.int 9973)) (aCons (eC (.int 6)) (aNil)))))) (gNm 2))
  (sSeq (sIf (tOf (e2 vEq (e2 vMod (eVar 0) (eC (.int 3))) (eC (.int 0)))) (sSeq (sAsg (eC (.str "ab")) (gNm 1))
  (sAsg (e2 vAdd (eC (.int 1)) (e2 vMod (eVar 2) (eC (.int 2)))) (gNm 2))) (sNil))
  (sRet (eBm .str mJoin (eC (.str "")) (aCons (eLc (iArgs rng1 (aCons (eVar 2) (aNil))) (gNm 3) (tYesM) (e2 vIx (eVar 1) (eCall m_law_mix (aCons (e2 vAdd (eVar 0) (e2 vMul (eC (.int 7)) (eVar 3))) (aCons (eC (.int 9967)) (aCons (eBi bLen (aCons (eVar 1) (aNil))) (aNil)))))) [3] frozen) (aNil)))))))
def m_law_text : FM := mF 4 (sSeq (sAsg (eC (.str " !\"#$&'()*+,-./0123456789:;<=>?\x40ABCDEFGHIJKLMNOPQRSTUVWXYZ[\\]^_`abcdefghijklmnopqrstuvwxyz{|}~")) (gNm 1))
  (sSeq (sAsg (eCall m_law_mix (aCons (eVar 0) (aCons (eC (.int 9949)) (aCons (eC (.int 5)) (aNil))))) (gNm 2))
  (sSeq (sIf (tOf (e2 vEq (eCall m_law_mix (aCons (eVar 0) (aCons (eC (.int 9941)) (aCons (eC (.int 9)) (aNil))))) (eC (.int 0)))) (sAsg (eC (.int 60)) (gNm 2)) (sNil))
  (sSeq (sIf (tOf (e2 vEq (eCall m_law_mix (aCons (eVar 0) (aCons (eC (.int 9941)) (aCons (eC (.int 9)) (aNil))))) (eC (.int 1)))) (sAsg (eCall m_law_mix (aCons (eVar 0) (aCons (eC (.int 9931)) (aCons (eC (.int 61)) (aNil))))) (gNm 2)) (sNil))
  (sSeq (sIf (tOf (e2 vEq (e2 vMod (eVar 0) (eC (.int 4))) (eC (.int 0)))) (sRet (e2 vIx (eDisp mkTup (aCons (eC (.str "")) (aCons (eC (.str "a")) (aCons (eC (.str "hi;")) (aNil))))) (eCall m_law_mix (aCons (eVar 0) (aCons (eC (.int 9929)) (aCons (eC (.int 3)) (aNil))))))) (sNil))
  (sRet (eBm .str mJoin (eC (.str "")) (aCons (eLc (iArgs rng1 (aCons (eVar 2) (aNil))) (gNm 3) (tYesM) (e2 vIx (eVar 1) (eCall m_law_mix (aCons (e2 vAdd (eVar 0) (e2 vMul (eC (.int 7)) (eVar 3))) (aCons (eC (.int 9923)) (aCons (eBi bLen (aCons (eVar 1) (aNil))) (aNil)))))) [3] frozen) (aNil)))))))))
def m_is_text : FM := mF 1 (sRet (eAndM (eBi bIsi (aCons (eVar 0) (aCons (eC (.ty "str")) (aNil)))) (e2 vLe (eBi bLen (aCons (eVar 0) (aNil))) (eC (.int 60)))))
def m_is_name : FM := mF 2 (sRet (eAndM (eBi bIsi (aCons (eVar 0) (aCons (eC (.ty "str")) (aNil)))) (eAndM (eChM vLe vLe (eC (.int 1)) (eBi bLen (aCons (eVar 0) (aNil))) (eC (.int 6))) (eBi bAll (aCons (eLc (iVal (eVar 0)) (gNm 1) (tYesM) (e2 vIn (eVar 1) (eC (.str "abcdefghijklmnopqrstuvwxyz"))) [1] frozen) (aNil))))))
def cell (ns : List Int) (k : Int) : Int := if k < ns.length then (atI ns k).getD 0 else 0
def mix (c p m : Int) : Int := c * 48271 % p % m
theorem mix_nn {c p m : Int} (hm : 0 < m) : 0 ≤ mix c p m := Int.emod_nonneg _ (by omega)
theorem mix_lt {c p m : Int} (hm : 0 < m) : mix c p m < m := Int.emod_lt_of_pos _ hm
@[simp] theorem at_cell {ns : List Int} {k : Nat} {h : HM} : m_law_cell [.scr ns, .int (k : Nat)] h = .ok (.int (cell ns k)) h := by
  simp only [m_law_cell, mF]
  simp
  by_cases hk : k < ns.length
  · have : (k : Int) < ns.length := by omega
    have e : atI ns (k : Int) = some ns[k] := by
      simp [L2.atI, L2.ixN, hk]
    simp [hk, cell, vIx, e, ofO]
  · simp [hk, cell]
theorem mix_mul {c : Int} {h : HM} : vMul (.int c) (.int 48271) h = .ok (.int (c * 48271)) h := ev_mulI (.inr (by decide))
theorem at_mix {c p m : Int} {h : HM} (hp : 0 < p) (hm : 0 < m) : m_law_mix [.int c, .int p, .int m] h = .ok (.int (mix c p m)) h := by
  simp [m_law_mix, mF, mix_mul, ev_modI hp, ev_modI hm, mix]
def sg (l : List Nat) : Str := ⟨l.toArray⟩
@[simp] theorem sg_len (l : List Nat) : (sg l).length = l.length := by simp [sg, Str.length]
@[simp] theorem sg_list (l : List Nat) : (sg l).cps.toList = l := by simp [sg]
theorem sg_of (x : Str) : x = sg x.cps.toList := by cases x; simp [sg]
@[simp] theorem sg_app (a b : List Nat) : sg a ++ sg b = sg (a ++ b) := by
  show Str.append _ _ = _
  simp [Str.append, sg]
theorem sg_inj {a b : List Nat} (h : sg a = sg b) : a = b := by
  have := congrArg (fun x : Str => x.cps.toList) h
  simpa using this
@[simp] theorem sg_eq {a b : List Nat} : sg a = sg b ↔ a = b := ⟨sg_inj, fun h => h ▸ rfl⟩
theorem sg_one (c : Nat) : (⟨#[c]⟩ : Str) = sg [c] := rfl
def pick (L : List Nat) (i : Int) : Nat := (L[i.toNat]?).getD 0
theorem pick_mem {L : List Nat} {i : Int} (h0 : 0 ≤ i) (h1 : i < L.length) : pick L i ∈ L := by
  have : i.toNat < L.length := by omega
  simp [pick, this]
theorem ix_str {L : List Nat} {i : Int} {h : HM} (hz : L.length ≤ 16777216) (h0 : 0 ≤ i) (h1 : i < L.length) : vIx (.str (sg L)) (.int i) h = .ok (.str (sg [pick L i])) h := by
  have hl : i.toNat < L.length := by omega
  have e : atI L i = some L[i.toNat] := by simp [L2.atI, L2.ixN, h0, h1, hl]
  have hz' : (sg L).length ≤ sizeLine := by rw [sg_len, sizeLine_eq]; exact hz
  simp only [vIx, if_pos hz', sg_list, e, pick]
  simp [ofO, hl, sg_one]
theorem strsOf_map (xs : List Str) : strsOf (xs.map Val.str) = some xs := by
  induction xs with
  | nil => rfl
  | cons x xs ih => simp [strsOf, ih]
theorem join_signs (cs : List Nat) : Txt.join (sg []) (cs.map fun c => sg [c]) = sg cs := by
  show Builtin.Str.glued _ _ = _
  rw [StrLaws.glued_eq_join]
  induction cs with
  | nil => rfl
  | cons c cs ih =>
    cases cs with
    | nil => rfl
    | cons d cs =>
      show sg [c] ++ sg [] ++ Str.join (sg []) ((d :: cs).map fun c => sg [c]) = _
      rw [ih]
      simp
/-- the join of a comprehension's signs -/
theorem join_ok {cs : List Nat} {h : HM} (hz : cs.length ≤ 16777216) : mJoin (.str (sg [])) [.lst (cs.map fun c => .str (sg [c]))] h = .ok (.str (sg cs)) h := by
  have e : (cs.map fun c => Val.str (sg [c])) = (cs.map fun c => sg [c]).map Val.str := by simp
  have hs : ((cs.map fun c => sg [c]).map (·.length)).sum = cs.length := by
    clear hz e
    induction cs with
    | nil => rfl
    | cons c cs ih => simp only [List.map_cons, List.sum_cons, ih]; simp; omega
  simp only [mJoin, seqL, Option.bind_some, e, strsOf_map]
  rw [if_pos (by rw [hs]; simp; exact hz), join_signs]
def lets : List Nat := [97, 98, 99, 100, 101, 102, 103, 104, 105, 106, 107, 108, 109, 110, 111, 112, 113, 114, 115, 116, 117, 118, 119, 120, 121, 122]
theorem lets_eq : Str.ofString "abcdefghijklmnopqrstuvwxyz" = sg lets := by decide +kernel
theorem ab_eq : Str.ofString "ab" = sg [97, 98] := by decide +kernel
theorem none_eq : Str.ofString "" = sg [] := by decide +kernel
/-- drawn signs of L -/
def drawn (L : List Nat) (c p : Int) (n : Nat) : List Nat := (List.range n).map fun (k : Nat) => pick L (mix (c + 7 * (k : Nat)) p L.length)
@[simp] theorem drawn_len {L : List Nat} {c p : Int} {n : Nat} : (drawn L c p n).length = n := by simp [drawn]
theorem drawn_mem {L : List Nat} {c p : Int} {n x : Nat} (hL : 0 < L.length) (h : x ∈ drawn L c p n) : x ∈ L := by
  simp only [drawn, List.mem_map] at h
  obtain ⟨k, _, rfl⟩ := h
  exact pick_mem (mix_nn (by omega)) (mix_lt (by omega))
def nameL (c : Int) : List Nat := if c % 3 = 0 then [97, 98] else lets
def nameN (c : Int) : Int := if c % 3 = 0 then 1 + (1 + mix c 9973 6) % 2 else 1 + mix c 9973 6
def lname (c : Int) : List Nat := drawn (nameL c) c 9967 (nameN c).toNat
/-- the drawn join of a name or a text -/
theorem at_drawn {L : List Nat} {c p j : Int} {l : Loc} {h : HM} {te : EM} {g : GM} (hL : 0 < L.length) (hL2 : L.length ≤ 16777216) (hj : 0 ≤ j) (hj2 : j ≤ 1000) (hp : 0 < p)
    (hg : ∀ k : Nat, ∃ l1, g (.int (k : Nat)) l = some l1 ∧ te l1 h = (m_law_mix [.int (c + 7 * (k : Nat)), .int p, .int L.length] h).bind fun y h2 => vIx (.str (sg L)) y h2) :
    lcL (srcItems (intsV 0 j.toNat)) g tYesM te l (srcItems (intsV 0 j.toNat)).len 0 h [] = .ok ((drawn L c p j.toNat).map fun c => .str (sg [c])) h := by
  rw [lc_range (fun k => .str (sg [pick L (mix (c + 7 * (k : Nat)) p L.length)])) (fun i hi => ?_) (by rw [sizeLine_eq]; omega)]
  · simp [drawn]
  · obtain ⟨l1, e1, e2⟩ := hg i
    refine ⟨l1, by rw [Int.zero_add]; exact e1, ?_⟩
    rw [e2, at_mix hp (by omega)]
    simp only [Res.bind_ok]
    exact ix_str hL2 (mix_nn (by omega)) (mix_lt (by omega))
theorem nameN_pos (c : Int) : 1 ≤ nameN c ∧ nameN c ≤ 6 := by
  unfold nameN
  have h1 := mix_nn (c := c) (p := 9973) (m := 6) (by decide)
  have h2 := mix_lt (c := c) (p := 9973) (m := 6) (by decide)
  split <;> omega
/-- the drawn join of a name or a text, wholly: j, the text's slots as they stand there -/
theorem at_drawnJ {L : List Nat} {c p j : Int} {x : Option Val} {h : HM} (hL : 0 < L.length) (hL2 : L.length ≤ 16777216) (hj : 0 ≤ j) (hj2 : j ≤ 1000) (hp : 0 < p) :
    (eBm .str mJoin (eC (.str (sg []))) (aCons (eLc (iArgs rng1 (aCons (eVar 2) (aNil))) (gNm 3) (tYesM) (e2 vIx (eVar 1) (eCall m_law_mix (aCons (e2 vAdd (eVar 0) (e2 vMul (eC (.int 7)) (eVar 3))) (aCons (eC (.int p)) (aCons (eBi bLen (aCons (eVar 1) (aNil))) (aNil)))))) [3] frozen) (aNil)))
      [some (.int c), some (.str (sg L)), some (.int j), x] h = .ok (.str (sg (drawn L c p j.toNat))) h := by
  have h7 : ∀ (k : Int) (h : HM), vMul (.int 7) (.int k) h = .ok (.int (7 * k)) h := fun k h => ev_mulI (.inl (by decide))
  have hl : ∀ h : HM, bLen [.str (sg L)] h = .ok (.int L.length) h := fun h => by rw [ev_lenS (by rw [sizeLine_eq, sg_len]; exact hL2), sg_len]
  simp only [ev_eBm, ev_C, Res.bind_ok, ev_kdS, if_true, ev_aCons, ev_eLc, ev_iArgs, ev_VarS, ev_Var0, ev_aNil]
  rw [ev_rng1 (by omega)]
  simp only [Res.bind_ok]
  rw [at_drawn (L := L) (c := c) (p := p) hL hL2 hj hj2 hp (fun k => ⟨_, rfl, by simp [h7, hl, wipeL]⟩)]
  simp only [Res.bind_ok, ev_frozen]
  exact join_ok (by simp; omega)
theorem at_name {c : Int} {h : HM} : m_law_name [.int c] h = .ok (.str (sg (lname c))) h := by
  have hn := nameN_pos c
  unfold m_law_name mF
  rw [lets_eq, ab_eq, none_eq]
  by_cases hc : c % 3 = 0
  · have e : nameN c = 1 + (1 + mix c 9973 6) % 2 := if_pos hc
    have e2 : nameL c = [97, 98] := if_pos hc
    simp [at_mix, ev_modI, hc, -ev_eBm]
    rw [at_drawnJ (by decide) (by decide) (by omega) (by omega) (by decide)]
    simp [lname, e, e2]
  · have e : nameN c = 1 + mix c 9973 6 := if_neg hc
    have e2 : nameL c = lets := if_neg hc
    simp [at_mix, ev_modI, hc, -ev_eBm]
    rw [at_drawnJ (by decide) (by decide) (by omega) (by omega) (by decide)]
    simp [lname, e, e2]
theorem lname_len (c : Int) : 1 ≤ (lname c).length ∧ (lname c).length ≤ 6 := by
  have := nameN_pos c
  simp [lname]; omega
theorem lname_mem {c : Int} {x : Nat} (h : x ∈ lname c) : x ∈ lets := by
  have := drawn_mem (by unfold nameL; split <;> decide) h
  unfold nameL at this
  split at this
  · simp [lets] at this ⊢; omega
  · exact this
def signsT : List Nat := ((List.range 95).map (· + 32)).filter (· != 37)
theorem signsT_eq : Str.ofString " !\"#$&'()*+,-./0123456789:;<=>?\x40ABCDEFGHIJKLMNOPQRSTUVWXYZ[\\]^_`abcdefghijklmnopqrstuvwxyz{|}~" = sg signsT := by decide +kernel
def textN (c : Int) : Int := if mix c 9941 9 = 1 then mix c 9931 61 else if mix c 9941 9 = 0 then 60 else mix c 9949 5
def ltext (c : Int) : List Nat := if c % 4 = 0 then (match mix c 9929 3 with | 0 => [] | 1 => [97] | _ => [104, 105, 59]) else drawn signsT c 9923 (textN c).toNat
theorem textN_ok (c : Int) : 0 ≤ textN c ∧ textN c ≤ 60 := by
  unfold textN
  have h1 := mix_nn (c := c) (p := 9931) (m := 61) (by decide)
  have h2 := mix_lt (c := c) (p := 9931) (m := 61) (by decide)
  have h3 := mix_nn (c := c) (p := 9949) (m := 5) (by decide)
  have h4 := mix_lt (c := c) (p := 9949) (m := 5) (by decide)
  split
  · omega
  · split <;> omega
theorem atI_nat {α : Type} {xs : List α} {i : Int} (h0 : 0 ≤ i) : atI xs i = xs[i.toNat]? := by
  unfold L2.atI L2.ixN
  by_cases h : i < xs.length
  · simp [h0, h]
  · have : xs.length ≤ i.toNat := by omega
    simp [h0, h, this]
theorem at_text {c : Int} {h : HM} : m_law_text [.int c] h = .ok (.str (sg (ltext c))) h := by
  have hn := textN_ok c
  have m3 := mix_nn (c := c) (p := 9929) (m := 3) (by decide)
  have m4 := mix_lt (c := c) (p := 9929) (m := 3) (by decide)
  unfold m_law_text mF
  rw [signsT_eq, none_eq]
  have e : textN c = if mix c 9941 9 = 1 then mix c 9931 61 else if mix c 9941 9 = 0 then 60 else mix c 9949 5 := rfl
  by_cases hc : c % 4 = 0
  · have fin : ∀ h : HM, vIx (.tup [.str (sg []), .str (Str.ofString "a"), .str (Str.ofString "hi;")]) (.int (mix c 9929 3)) h = .ok (.str (sg (ltext c))) h := fun h => by
      have e1 : Str.ofString "a" = sg [97] := by decide +kernel
      have e2 : Str.ofString "hi;" = sg [104, 105, 59] := by decide +kernel
      rw [e1, e2]
      have : mix c 9929 3 = 0 ∨ mix c 9929 3 = 1 ∨ mix c 9929 3 = 2 := by omega
      unfold ltext
      rcases this with z | z | z <;> simp [vIx, z, hc, atI_nat, ofO]
    by_cases h0 : mix c 9941 9 = 0
    · simp [at_mix, ev_modI, hc, h0, ev_mkTup, fin]
    · by_cases h1 : mix c 9941 9 = 1
      · simp [at_mix, ev_modI, hc, h0, h1, ev_mkTup, fin]
      · simp [at_mix, ev_modI, hc, h0, h1, ev_mkTup, fin]
  · have fin : ∀ n, textN c = n → sg (ltext c) = sg (drawn signsT c 9923 n.toNat) := fun n e => by rw [← e]; simp [ltext, hc]
    by_cases h0 : mix c 9941 9 = 0
    · simp [h0] at e
      simp [at_mix, ev_modI, hc, h0, -ev_eBm]
      rw [at_drawnJ (by decide) (by decide) (by omega) (by omega) (by decide), fin _ e]
      simp
    · by_cases h1 : mix c 9941 9 = 1
      · simp [h1] at e
        simp [at_mix, ev_modI, hc, h0, h1, -ev_eBm]
        rw [at_drawnJ (by decide) (by decide) (by omega) (by omega) (by decide), fin _ e]
        simp
      · simp [h1, h0] at e
        simp [at_mix, ev_modI, hc, h0, h1, -ev_eBm]
        rw [at_drawnJ (by decide) (by decide) (by omega) (by omega) (by decide), fin _ e]
        simp
theorem ltext_len (c : Int) : (ltext c).length ≤ 60 := by
  have := textN_ok c
  unfold ltext
  split
  · split <;> simp
  · simp; omega
def isText (v : Val) : Bool := match v with
  | .str x => decide (x.length ≤ 60)
  | _ => false
def isName (v : Val) : Bool := match v with
  | .str x => decide (1 ≤ x.length ∧ x.length ≤ 6) && x.cps.toList.all fun c => decide (c ∈ lets)
  | _ => false
/-- a value that isinstance can be asked of, a text not too long -/
def isAsk (v : Val) (h : HM) : Bool := (tyN v h).isSome && match v with
  | .str x => decide (x.length ≤ sizeLine)
  | _ => true
theorem isi_str {v : Val} {h : HM} (ha : (tyN v h).isSome = true) : bIsi [v, .ty "str"] h = .ok (.bl (match v with | .str _ => true | _ => false)) h := by
  have k : ∀ t : String, t ∈ ["NoneType", "bool", "int", "tuple", "list", "dict"] → kitB t "str" = some false := by decide +kernel
  have ks : kitB "str" "str" = some true := by decide +kernel
  cases v with
  | str x => simp [bIsi, tyN, ks]
  | ref n =>
    simp only [tyN] at ha
    simp only [bIsi, tyN]
    split at ha <;> first | (cases ha; done) | simp_all
  | non => simp [bIsi, tyN, k]
  | bl b => simp [bIsi, tyN, k]
  | int b => simp [bIsi, tyN, k]
  | tup b => simp [bIsi, tyN, k]
  | ptup b => simp [bIsi, tyN, k]
  | lst b => simp [bIsi, tyN, k]
  | _ => cases ha
theorem at_isText {v : Val} {h : HM} (ha : isAsk v h = true) : m_is_text [v] h = .ok (.bl (isText v)) h := by
  simp only [isAsk, Bool.and_eq_true] at ha
  obtain ⟨h1, h2⟩ := ha
  simp [m_is_text, mF, isi_str h1]
  cases v with
  | str x =>
    simp at h2
    simp [ev_lenS h2, isText]
    omega
  | _ => simp [isText]
theorem boolsOf_map (xs : List Bool) : boolsOf (xs.map Val.bl) = some xs := by
  induction xs with
  | nil => rfl
  | cons x xs ih => simp [boolsOf, ih]
theorem all_ok {α : Type} {xs : List α} {f : α → Bool} {h : HM} : bAll [.lst (xs.map fun x => .bl (f x))] h = .ok (.bl (xs.all f)) h := by
  have e : (xs.map fun x => Val.bl (f x)) = (xs.map f).map Val.bl := by simp
  simp only [bAll, seqL, Option.bind_some, e, boolsOf_map]
  simp [Function.comp_def]
theorem any_ok {α : Type} {xs : List α} {f : α → Bool} {h : HM} : bAny [.lst (xs.map fun x => .bl (f x))] h = .ok (.bl (xs.any f)) h := by
  have e : (xs.map fun x => Val.bl (f x)) = (xs.map f).map Val.bl := by simp
  simp only [bAny, seqL, Option.bind_some, e, boolsOf_map]
  simp [Function.comp_def]
theorem signs_map (x : List Nat) : signs (sg x) = x.map fun c => .str (sg [c]) := by simp [signs, sg_one]
@[simp] theorem in_sign {c : Nat} {L : List Nat} {h : HM} : vIn (.str (sg [c])) (.str (sg L)) h = .ok (.bl (decide (c ∈ L))) h := by
  simp [vIn, inB, inStr]
@[simp] theorem notIn_sign {c : Nat} {L : List Nat} {h : HM} : vNotIn (.str (sg [c])) (.str (sg L)) h = .ok (.bl (!decide (c ∈ L))) h := by
  simp [vNotIn, inB, inStr]
theorem at_isName {v : Val} {h : HM} (ha : isAsk v h = true) : m_is_name [v] h = .ok (.bl (isName v)) h := by
  simp only [isAsk, Bool.and_eq_true] at ha
  obtain ⟨h1, h2⟩ := ha
  unfold m_is_name mF
  rw [lets_eq]
  simp [isi_str h1]
  cases v with
  | str x =>
    simp at h2
    rw [sg_of x] at h2 ⊢
    generalize x.cps.toList = y at h2
    have h2' : y.length ≤ sizeLine := by simpa using h2
    simp [ev_lenS h2, srcOf]
    by_cases h3 : 1 ≤ y.length
    · have h3' : (1 : Int) ≤ y.length := by omega
      by_cases h4 : y.length ≤ 6
      · have h4' : (y.length : Int) ≤ 6 := by omega
        simp [h3', h4', isName, h3, h4]
        rw [signs_map, lc_map (f := fun v => match v with | .str z => .bl (decide (pick z.cps.toList 0 ∈ lets)) | _ => .non) (fun v hv => ?_) (by simpa using h2')]
        · simp only [Res.bind_ok, List.map_map, ev_frozen]
          simp [Function.comp_def, pick, all_ok, sg]
        · simp only [List.mem_map] at hv
          obtain ⟨c, _, rfl⟩ := hv
          exact ⟨_, rfl, by simp [wipeL, pick]⟩
      · have h4' : ¬ (y.length : Int) ≤ 6 := by omega
        simp [h3', h4', isName, h4]
    · have h3' : ¬ (1 : Int) ≤ y.length := by omega
      have h5 : y.length = 0 := by omega
      have h6 : ¬ 0 < (y.length : Int) := by omega
      simp [h3', isName, h3, h5, h6]
  | _ => simp [isName]
theorem cutL_to {α : Type} {x : List α} {n : Int} (hn : 0 ≤ n) : cutL x none (some n) = x.take n.toNat := by
  have h1 : ¬ n < 0 := by omega
  simp only [cutL, HT.sIx, h1, if_false, List.drop_zero, Nat.sub_zero]
  rw [Nat.min_def]
  split
  · rfl
  · rw [List.take_of_length_le (Nat.le_refl _), List.take_of_length_le (by omega)]
@[simp] theorem isText_sg {x : List Nat} : isText (.str (sg x)) = decide (x.length ≤ 60) := by simp [isText]
@[simp] theorem isName_sg {x : List Nat} : isName (.str (sg x)) = (decide (1 ≤ x.length ∧ x.length ≤ 6) && x.all fun c => decide (c ∈ lets)) := by simp [isName]
theorem at_cell' {ns : List Int} {k : Int} {h : HM} (hk : 0 ≤ k) : m_law_cell [.scr ns, .int k] h = .ok (.int (cell ns k)) h := by
  obtain ⟨n, rfl⟩ := Int.eq_ofNat_of_zero_le hk
  exact at_cell
end MM
namespace MM
open PySem L2
def m_law_same : Nat → FM
  | 0 => fun _ _ => .bad
  | d + 1 => mF 4 (sSeq (sIf (tTru (eBi bIsi (aCons (eVar 1) (aCons (eC (.ty "tuple")) (aNil))))) (sSeq (sIf (tOrM (tNotM (tTru (eBi bIsi (aCons (eVar 0) (aCons (eC (.ty "tuple")) (aNil)))))) (tOf (e2 vNe (eBi bLen (aCons (eVar 0) (aNil))) (eBi bLen (aCons (eVar 1) (aNil)))))) (sRet (eC (.bl false))) (sNil))
  (sRet (eBi bAll (aCons (eLc (iArgs zip2 (aCons (eVar 0) (aCons (eVar 1) (aNil)))) (gTp 2 (gsCons (gNm 2) (gsCons (gNm 3) (gsNil)))) (tYesM) (eCall (m_law_same d) (aCons (eVar 2) (aCons (eVar 3) (aNil)))) [2, 3] frozen) (aNil))))) (sNil))
  (sSeq (sIf (tOf (e2 vIs (eVar 1) (eC .non))) (sRet (e2 vIs (eVar 0) (eC .non))) (sNil))
  (sSeq (sIf (tOrM (tTru (eBi bIsi (aCons (eVar 1) (aCons (eC (.ty "bool")) (aNil))))) (tTru (eBi bIsi (aCons (eVar 0) (aCons (eC (.ty "bool")) (aNil)))))) (sRet (eAndM (eBi bIsi (aCons (eVar 1) (aCons (eC (.ty "bool")) (aNil)))) (eAndM (eBi bIsi (aCons (eVar 0) (aCons (eC (.ty "bool")) (aNil)))) (e2 vEq (eVar 0) (eVar 1))))) (sNil))
  (sRet (eAndM (eBi bIsi (aCons (eVar 0) (aCons (eDisp mkTup (aCons (eC (.ty "int")) (aCons (eC (.ty "str")) (aNil)))) (aNil)))) (e2 vEq (eVar 0) (eVar 1)))))))
def m_is_within : FM := mF 4 (sRet (eBi bAny (aCons (eLc (iVal (eVar 1)) (gTp 2 (gsCons (gNm 2) (gsCons (gNm 3) (gsNil)))) (tYesM) (eAndM (e2 vEq (eVar 2) (e2 vIx (eVar 0) (eC (.int 0)))) (e2 vGe (eVar 3) (e2 vIx (eVar 0) (eC (.int 1))))) [2, 3] frozen) (aNil))))
theorem isi_of {v : Val} {t u : String} {b : Bool} {h : HM} (e : tyN v h = some t) (k : kitB t u = some b) : bIsi [v, .ty u] h = .ok (.bl b) h := by simp [bIsi, e, k]
theorem isi2_of {v : Val} {t u w : String} {b c : Bool} {h : HM} (e : tyN v h = some t) (k : kitB t u = some b) (k2 : kitB t w = some c) : bIsi [v, .tup [.ty u, .ty w]] h = .ok (.bl (b || c)) h := by simp [bIsi, e, k, k2]
def tyTab (t u : String) : Bool := t == u || (t == "bool" && u == "int")
theorem kit_tab : ∀ t ∈ ["NoneType", "bool", "int", "str", "tuple", "list", "dict"], ∀ u ∈ ["bool", "int", "str", "tuple", "list"], kitB t u = some (tyTab t u) := by decide +kernel
/-- values that are asked of -/
def tyV (v : Val) : String := match v with
  | .non => "NoneType"
  | .bl _ => "bool"
  | .int _ => "int"
  | .str _ => "str"
  | .tup _ => "tuple"
  | .ptup _ => "tuple"
  | .lst _ => "list"
  | _ => ""
def isV (v : Val) : Bool := match v with
  | .non => true
  | .bl _ => true
  | .int _ => true
  | .str _ => true
  | .tup _ => true
  | .ptup _ => true
  | .lst _ => true
  | _ => false
theorem isi_tab {v : Val} {u : String} {h : HM} (hv : isV v = true) (hu : u ∈ ["bool", "int", "str", "tuple", "list"]) : bIsi [v, .ty u] h = .ok (.bl (tyTab (tyV v) u)) h := by
  have e : tyN v h = some (tyV v) := by cases v <;> first | rfl | cases hv
  have m : tyV v ∈ ["NoneType", "bool", "int", "str", "tuple", "list", "dict"] := by cases v <;> first | (simp [tyV]; done) | cases hv
  exact isi_of e (kit_tab _ m _ hu)
theorem isi2_tab {v : Val} {u w : String} {h : HM} (hv : isV v = true) (hu : u ∈ ["bool", "int", "str", "tuple", "list"]) (hw : w ∈ ["bool", "int", "str", "tuple", "list"]) : bIsi [v, .tup [.ty u, .ty w]] h = .ok (.bl (tyTab (tyV v) u || tyTab (tyV v) w)) h := by
  have e : tyN v h = some (tyV v) := by cases v <;> first | rfl | cases hv
  have m : tyV v ∈ ["NoneType", "bool", "int", "str", "tuple", "list", "dict"] := by cases v <;> first | (simp [tyV]; done) | cases hv
  exact isi2_of e (kit_tab _ m _ hu) (kit_tab _ m _ hw)
mutual
def sameB : Val → Val → Bool
  | f, .tup ds => (match tupL f with
    | some fs => sameBs fs ds
    | none => false)
  | f, .ptup ds => (match tupL f with
    | some fs => sameBs fs ds
    | none => false)
  | f, .non => (match f with
    | .non => true
    | _ => false)
  | f, .bl b => (match f with
    | .bl a => decide (a = b)
    | _ => false)
  | f, .int b => (match f with
    | .int a => decide (a = b)
    | _ => false)
  | f, .str b => (match f with
    | .str a => decide (a = b)
    | _ => false)
  | _, _ => false
def sameBs : List Val → List Val → Bool
  | [], [] => true
  | f :: fs, d :: ds => sameB f d && sameBs fs ds
  | _, _ => false
end
/-- tuples (to a depth), none, truths, ints, texts -/
def pl : Nat → Val → Bool
  | _, .non => true
  | _, .bl _ => true
  | _, .int _ => true
  | _, .str x => PyData.strOk x
  | d + 1, .tup xs => decide (xs.length ≤ 1000000) && xs.all (pl d)
  | d + 1, .ptup xs => decide (xs.length ≤ 1000000) && xs.all (pl d)
  | _, _ => false
theorem pl_isV {d : Nat} {v : Val} (h : pl d v = true) : isV v = true := by
  cases v <;> first | rfl | (cases d <;> cases h)
theorem sameBs_len {fs ds : List Val} (h : fs.length ≠ ds.length) : sameBs fs ds = false := by
  induction fs generalizing ds with
  | nil => cases ds with
    | nil => simp at h
    | cons d ds => simp [sameBs]
  | cons f fs ih => cases ds with
    | nil => simp [sameBs]
    | cons d ds => simp only [sameBs]; rw [ih (by simpa using h)]; simp
theorem sameBs_zip {fs ds : List Val} (h : fs.length = ds.length) : sameBs fs ds = (fs.zip ds).all fun p => sameB p.1 p.2 := by
  induction fs generalizing ds with
  | nil => cases ds with
    | nil => simp [sameBs]
    | cons d ds => simp at h
  | cons f fs ih => cases ds with
    | nil => simp at h
    | cons d ds => simp only [sameBs, List.zip_cons_cons, List.all_cons]; rw [ih (by simpa using h)]
theorem zipV_map (fs ds : List Val) : zipV fs ds = (fs.zip ds).map fun p => .tup [p.1, p.2] := by
  induction fs generalizing ds with
  | nil => cases ds <;> rfl
  | cons f fs ih => cases ds with
    | nil => rfl
    | cons d ds => simp [zipV, ih]
theorem shStr {a : Str} (h : PyData.strOk a = true) : SeqAt.shaped (.str a) = true := by
  show (PyData.canLay0 (.str a) && decide (PyData.depth (.str a) ≤ 64)) = true
  simp [PyData.canLay0, h, PyData.depth]
theorem eqS {a b : Str} {h : HM} (ha : PyData.strOk a = true) (hb : PyData.strOk b = true) : vEq (.str a) (.str b) h = .ok (.bl (decide (a = b))) h := by
  have e : PyData.eqv (.str a) (.str b) = decide (a = b) := by
    show (a == b) = _
    by_cases e : a = b <;> simp [e]
  show (if (SeqAt.shaped (.str a) && SeqAt.shaped (.str b)) = true then (Res.ok (Val.bl (PyData.eqv (.str a) (.str b))) h : Res Val) else .bad) = _
  rw [e, shStr ha, shStr hb]
  rfl
theorem eqB {a b : Bool} {h : HM} : vEq (.bl a) (.bl b) h = .ok (.bl (decide (a = b))) h := by
  have e : PyData.eqv (.bool a) (.bool b) = decide (a = b) := by
    show (a == b) = _
    cases a <;> cases b <;> rfl
  show (if (SeqAt.shaped (.bool a) && SeqAt.shaped (.bool b)) = true then (Res.ok (Val.bl (PyData.eqv (.bool a) (.bool b))) h : Res Val) else .bad) = _
  rw [e]
  rfl
theorem eqIS {a : Int} {b : Str} {h : HM} (hb : PyData.strOk b = true) : vEq (.int a) (.str b) h = .ok (.bl false) h := by
  show (if (SeqAt.shaped (.int a) && SeqAt.shaped (.str b)) = true then (Res.ok (Val.bl (PyData.eqv (.int a) (.str b))) h : Res Val) else .bad) = _
  rw [shStr hb]; rfl
theorem eqSI {a : Str} {b : Int} {h : HM} (ha : PyData.strOk a = true) : vEq (.str a) (.int b) h = .ok (.bl false) h := by
  show (if (SeqAt.shaped (.str a) && SeqAt.shaped (.int b)) = true then (Res.ok (Val.bl (PyData.eqv (.str a) (.int b))) h : Res Val) else .bad) = _
  rw [shStr ha]; rfl
@[simp] theorem ev_neI {a b : Int} {h : HM} : vNe (.int a) (.int b) h = .ok (.bl (!decide (a = b))) h := by
  have e : PyData.eqv (.int a) (.int b) = decide (a = b) := by
    show (a == b) = _
    by_cases e : a = b <;> simp [e]
  show (if (SeqAt.shaped (.int a) && SeqAt.shaped (.int b)) = true then (Res.ok (Val.bl (!PyData.eqv (.int a) (.int b))) h : Res Val) else .bad) = _
  rw [e]
  rfl
/-- the tuple case, the items done -/
theorem same_tup {d : Nat} {f e : Val} {fs ds : List Val} {h : HM} (hf : tupL f = some fs) (he : tupL e = some ds) (hfl : fs.length ≤ 1000000) (hds : ds.length ≤ 1000000)
    (ih : ∀ x ∈ fs.zip ds, m_law_same d [x.1, x.2] h = .ok (.bl (sameB x.1 x.2)) h) : m_law_same (d + 1) [f, e] h = .ok (.bl (sameBs fs ds)) h := by
  have vf : isV f = true := by cases f <;> first | rfl | cases hf
  have ve : isV e = true := by cases e <;> first | rfl | cases he
  have tf : tyV f = "tuple" := by cases f <;> first | rfl | cases hf
  have te : tyV e = "tuple" := by cases e <;> first | rfl | cases he
  have lf : bLen [f] h = .ok (.int fs.length) h := by cases f <;> first | (cases hf; rfl) | cases hf
  have le : bLen [e] h = .ok (.int ds.length) h := by cases e <;> first | (cases he; rfl) | cases he
  have zz : zip2 [f, e] h = .ok (srcItems ((fs.zip ds).map fun p => .tup [p.1, p.2])) h := by
    have : zip2 [f, e] h = .ok (srcItems (zipV fs ds)) h := by
      cases f <;> first | (cases hf; cases e <;> first | (cases he; rfl) | cases he) | cases hf
    rw [this, zipV_map]
  unfold m_law_same mF
  by_cases hl : fs.length = ds.length
  · have hl' : (fs.length : Int) = ds.length := by omega
    simp [isi_tab vf, isi_tab ve, tf, te, tyTab, lf, le, hl', zz]
    rw [lc_mapM (f := fun p => .bl (sameB p.1 p.2)) (fun p hp => ⟨_, rfl, by simp [wipeL, ih p hp]⟩) (by rw [sizeLine_eq]; simp; omega)]
    simp [all_ok, sameBs_zip hl]
  · have hl' : ¬ (fs.length : Int) = ds.length := by omega
    simp [isi_tab vf, isi_tab ve, tf, te, tyTab, lf, le, hl', sameBs_len hl]
theorem same_mix {d : Nat} {f e : Val} {h : HM} (vf : isV f = true) (hf : tupL f = none) (ve : tyV e = "tuple") (hv : isV e = true) : m_law_same (d + 1) [f, e] h = .ok (.bl false) h := by
  have tf : tyTab (tyV f) "tuple" = false := by cases f <;> first | rfl | (cases vf; done) | (cases hf; done)
  unfold m_law_same mF
  simp [isi_tab vf, isi_tab hv, tf, ve]
  simp [tyTab]
theorem isi_non {u : String} {h : HM} (hu : u ∈ ["bool", "int", "str", "tuple", "list"]) : bIsi [.non, .ty u] h = .ok (.bl false) h := by
  rw [isi_tab rfl hu]; simp at hu; rcases hu with rfl | rfl | rfl | rfl | rfl <;> rfl
theorem isi_bl {u : String} {b : Bool} {h : HM} (hu : u ∈ ["bool", "int", "str", "tuple", "list"]) : bIsi [.bl b, .ty u] h = .ok (.bl (u == "bool" || u == "int")) h := by
  rw [isi_tab rfl hu]; simp at hu; rcases hu with rfl | rfl | rfl | rfl | rfl <;> rfl
theorem isi_int {u : String} {b : Int} {h : HM} (hu : u ∈ ["bool", "int", "str", "tuple", "list"]) : bIsi [.int b, .ty u] h = .ok (.bl (u == "int")) h := by
  rw [isi_tab rfl hu]; simp at hu; rcases hu with rfl | rfl | rfl | rfl | rfl <;> rfl
theorem isi_st {u : String} {b : Str} {h : HM} (hu : u ∈ ["bool", "int", "str", "tuple", "list"]) : bIsi [.str b, .ty u] h = .ok (.bl (u == "str")) h := by
  rw [isi_tab rfl hu]; simp at hu; rcases hu with rfl | rfl | rfl | rfl | rfl <;> rfl
theorem isi_tup {u : String} {b : List Val} {h : HM} (hu : u ∈ ["bool", "int", "str", "tuple", "list"]) : bIsi [.tup b, .ty u] h = .ok (.bl (u == "tuple")) h := by
  rw [isi_tab rfl hu]; simp at hu; rcases hu with rfl | rfl | rfl | rfl | rfl <;> rfl
theorem isi_ptup {u : String} {b : List Val} {h : HM} (hu : u ∈ ["bool", "int", "str", "tuple", "list"]) : bIsi [.ptup b, .ty u] h = .ok (.bl (u == "tuple")) h := by
  rw [isi_tab rfl hu]; simp at hu; rcases hu with rfl | rfl | rfl | rfl | rfl <;> rfl
def isIS : Val → Bool
  | .int _ => true
  | .bl _ => true
  | .str _ => true
  | _ => false
theorem isi_is {v : Val} {h : HM} (hv : isV v = true) : bIsi [v, .tup [.ty "int", .ty "str"]] h = .ok (.bl (isIS v)) h := by
  rw [isi2_tab hv (by simp) (by simp)]
  cases v <;> first | (cases hv; done) | rfl
@[simp] theorem isis_non {h : HM} : bIsi [.non, .tup [.ty "int", .ty "str"]] h = .ok (.bl false) h := by rw [isi_is rfl]; rfl
@[simp] theorem isis_bl {b : Bool} {h : HM} : bIsi [.bl b, .tup [.ty "int", .ty "str"]] h = .ok (.bl true) h := by rw [isi_is rfl]; rfl
@[simp] theorem isis_int {b : Int} {h : HM} : bIsi [.int b, .tup [.ty "int", .ty "str"]] h = .ok (.bl true) h := by rw [isi_is rfl]; rfl
@[simp] theorem isis_str {b : Str} {h : HM} : bIsi [.str b, .tup [.ty "int", .ty "str"]] h = .ok (.bl true) h := by rw [isi_is rfl]; rfl
@[simp] theorem isis_tup {b : List Val} {h : HM} : bIsi [.tup b, .tup [.ty "int", .ty "str"]] h = .ok (.bl false) h := by rw [isi_is rfl]; rfl
@[simp] theorem isis_ptup {b : List Val} {h : HM} : bIsi [.ptup b, .tup [.ty "int", .ty "str"]] h = .ok (.bl false) h := by rw [isi_is rfl]; rfl
@[simp] theorem isis_lst {b : List Val} {h : HM} : bIsi [.lst b, .tup [.ty "int", .ty "str"]] h = .ok (.bl false) h := by rw [isi_is rfl]; rfl
@[simp] theorem isNB {b : Bool} {h : HM} : vIs (.bl b) .non h = .ok (.bl false) h := rfl
@[simp] theorem isNI {b : Int} {h : HM} : vIs (.int b) .non h = .ok (.bl false) h := rfl
@[simp] theorem isNS {b : Str} {h : HM} : vIs (.str b) .non h = .ok (.bl false) h := rfl
@[simp] theorem isNT {b : List Val} {h : HM} : vIs (.tup b) .non h = .ok (.bl false) h := rfl
@[simp] theorem isNP {b : List Val} {h : HM} : vIs (.ptup b) .non h = .ok (.bl false) h := rfl
@[simp] theorem isNN {h : HM} : vIs .non .non h = .ok (.bl true) h := rfl
theorem same_flat {d k : Nat} {f e : Val} {h : HM} (hf : pl k f = true) (hs : ∀ x, e = .str x → PyData.strOk x = true) (he : e = .non ∨ (∃ b, e = .bl b) ∨ (∃ i, e = .int i) ∨ ∃ x, e = .str x) : m_law_same (d + 1) [f, e] h = .ok (.bl (sameB f e)) h := by
  unfold m_law_same mF
  cases f with
  | non => rcases he with rfl | ⟨b, rfl⟩ | ⟨b, rfl⟩ | ⟨b, rfl⟩ <;> simp [isi_non, isi_bl, isi_int, isi_st, sameB]
  | bl c => rcases he with rfl | ⟨b, rfl⟩ | ⟨b, rfl⟩ | ⟨b, rfl⟩ <;> simp [isi_non, isi_bl, isi_int, isi_st, sameB, eqB]
  | int c => rcases he with rfl | ⟨b, rfl⟩ | ⟨b, rfl⟩ | ⟨b, rfl⟩ <;> first | simp [isi_non, isi_bl, isi_int, isi_st, sameB, eqIS (hs _ rfl)] | simp [isi_non, isi_bl, isi_int, isi_st, sameB]
  | str c =>
    have hc : PyData.strOk c = true := by cases k <;> exact hf
    rcases he with rfl | ⟨b, rfl⟩ | ⟨b, rfl⟩ | ⟨b, rfl⟩ <;> first | simp [isi_non, isi_bl, isi_int, isi_st, sameB, eqS hc (hs _ rfl)] | simp [isi_non, isi_bl, isi_int, isi_st, sameB, eqSI hc]
  | tup c => rcases he with rfl | ⟨b, rfl⟩ | ⟨b, rfl⟩ | ⟨b, rfl⟩ <;> simp [isi_non, isi_bl, isi_int, isi_st, isi_tup, sameB]
  | ptup c => rcases he with rfl | ⟨b, rfl⟩ | ⟨b, rfl⟩ | ⟨b, rfl⟩ <;> simp [isi_non, isi_bl, isi_int, isi_st, isi_ptup, sameB]
  | _ => cases k <;> cases hf
theorem at_same : ∀ (d : Nat) (f e : Val) (h : HM), pl d f = true → pl d e = true → m_law_same (d + 1) [f, e] h = .ok (.bl (sameB f e)) h := by
  intro d
  induction d with
  | zero =>
    intro f e h hf he
    refine same_flat hf (fun x z => by cases z <;> exact he) ?_
    cases e with
    | non => exact .inl rfl
    | bl b => exact .inr (.inl ⟨_, rfl⟩)
    | int b => exact .inr (.inr (.inl ⟨_, rfl⟩))
    | str b => exact .inr (.inr (.inr ⟨_, rfl⟩))
    | _ => cases he
  | succ d ih =>
    intro f e h hf he
    have key : ∀ {fs ds : List Val}, tupL f = some fs → tupL e = some ds → m_law_same (d + 1 + 1) [f, e] h = .ok (.bl (sameBs fs ds)) h := by
      intro fs ds h1 h2
      have g1 : fs.length ≤ 1000000 ∧ ∀ x ∈ fs, pl d x = true := by
        cases f <;> first | (cases h1; simp [pl] at hf; exact hf) | cases h1
      have g2 : ds.length ≤ 1000000 ∧ ∀ x ∈ ds, pl d x = true := by
        cases e <;> first | (cases h2; simp [pl] at he; exact he) | cases h2
      exact same_tup h1 h2 g1.1 g2.1 fun x hx => ih x.1 x.2 h (g1.2 _ (List.of_mem_zip hx).1) (g2.2 _ (List.of_mem_zip hx).2)
    cases e with
    | tup ds =>
      cases hfs : tupL f with
      | none => rw [same_mix (pl_isV hf) hfs rfl rfl]; simp [sameB, hfs]
      | some fs => rw [key hfs rfl]; simp [sameB, hfs]
    | ptup ds =>
      cases hfs : tupL f with
      | none => rw [same_mix (pl_isV hf) hfs rfl rfl]; simp [sameB, hfs]
      | some fs => rw [key hfs rfl]; simp [sameB, hfs]
    | non => exact same_flat hf (fun x z => by cases z <;> exact he) (.inl rfl)
    | bl b => exact same_flat hf (fun x z => by cases z <;> exact he) (.inr (.inl ⟨_, rfl⟩))
    | int b => exact same_flat hf (fun x z => by cases z <;> exact he) (.inr (.inr (.inl ⟨_, rfl⟩)))
    | str b => exact same_flat hf (fun x z => by cases z <;> exact he) (.inr (.inr (.inr ⟨_, rfl⟩)))
    | _ => cases he
def s_law_same : FM := fun xs h => match xs with
  | [f, e] => if (pl 30 f && pl 30 e) = true then .ok (.bl (sameB f e)) h else .bad
  | _ => .bad
theorem le_law_same (xs : List Val) (h : HM) (_ : xs.length = 2) (_ : Wf h) (_ : CloS h.length xs) : Le h (s_law_same xs h) (m_law_same 31 xs h) := by
  match xs with
  | [f, e] =>
    show Le h (if (pl 30 f && pl 30 e) = true then _ else _) _
    split
    · rename_i hp
      rw [Bool.and_eq_true] at hp
      rw [at_same 30 f e h hp.1 hp.2]
      exact .same
    · exact .bad
theorem same_ok {f e : Val} {h : HM} (hf : pl 30 f = true) (he : pl 30 e = true) : s_law_same [f, e] h = .ok (.bl (sameB f e)) h := by simp [s_law_same, hf, he]
abbrev Mk := Int × Int
def eM (m : Mk) : Val := .tup [.int m.1, .int m.2]
def within (m : Mk) (ks : List Mk) : Bool := ks.any fun k => decide (k.1 = m.1) && decide (m.2 ≤ k.2)
theorem src_tup {v : Val} {xs : List Val} {h : HM} (e : tupL v = some xs) : srcOf v h = .ok (srcItems xs) h := by
  cases v <;> first | (cases e; rfl) | cases e
@[simp] theorem ix0 {x : Val} {xs : List Val} {h : HM} : vIx (.tup (x :: xs)) (.int 0) h = .ok x h := by
  show ofO (atI (x :: xs) 0) h = _
  rw [atI_nat (by decide)]; rfl
@[simp] theorem ix1 {x y : Val} {xs : List Val} {h : HM} : vIx (.tup (x :: y :: xs)) (.int 1) h = .ok y h := by
  show ofO (atI (x :: y :: xs) 1) h = _
  rw [atI_nat (by decide)]; rfl
theorem at_within {m : Mk} {ks : List Mk} {v : Val} {h : HM} (e : tupL v = some (ks.map eM)) (hl : ks.length ≤ 1000000) : m_is_within [eM m, v] h = .ok (.bl (within m ks)) h := by
  unfold m_is_within mF
  simp [src_tup e]
  rw [lc_mapM (f := fun k : Mk => .bl (decide (k.1 = m.1) && decide (m.2 ≤ k.2))) (fun k hk => ⟨_, rfl, ?_⟩) (by rw [sizeLine_eq]; omega)]
  · simp [any_ok, within]
  · simp only [wipeL, List.set, eM]
    by_cases h1 : k.1 = m.1 <;> simp [h1]
def heard (ks ms : List Mk) : Bool := ms.all fun m => within m ks
@[simp] theorem last_get {h : HM} {o : Ob} : (h ++ [o])[List.length h]? = some o := by
  rw [List.getElem?_append_right (Nat.le_refl _)]; simp
@[simp] theorem last_set {h : HM} {o o' : Ob} : List.set (h ++ [o]) (List.length h) o' = h ++ [o'] := by
  simp [List.set_append]
@[simp] theorem kd_last {h : HM} {ys : List Val} : isKd .list (.ref (List.length h)) (h ++ [.lst ys]) = true := by
  simp [isKd, seqL]
@[simp] theorem seq_last {h : HM} {ys : List Val} : seqL (.ref (List.length h)) (h ++ [.lst ys]) = some ys := by
  simp [seqL]
/-- what the law draws as known, forgetting how -/
def isMk : Val → Option Mk
  | .tup [.int a, .int b] => some (a, b)
  | _ => none
theorem isMk_eM (w : Mk) : isMk (eM w) = some w := rfl
theorem eM_of {v : Val} {w : Mk} (e : isMk v = some w) : v = eM w := by
  unfold isMk at e
  split at e
  · cases e; rfl
  · cases e
theorem frz_mks {h : HM} {n : Nat} (ks : List Mk) : FrzS h n (ks.map eM) (ks.map eM) := by
  induction ks with
  | nil => exact .nil
  | cons k ks ih => exact .cons (.tup (.cons (.int _) (.cons (.int _) .nil))) ih
end MM
namespace MM
open PySem L2
section
variable {h : HM} {o o' p : Ob} {n : Nat}
@[simp] theorem get_at {l : HM} {k : Nat} : (h ++ l)[List.length h + k]? = l[k]? := by
  rw [List.getElem?_append_right (by omega)]; congr 1; omega
@[simp] theorem get_at0 {l : HM} : (h ++ l)[List.length h]? = l[0]? := by
  rw [List.getElem?_append_right (by omega)]; congr 1; omega
@[simp] theorem set_at {l : HM} {k : Nat} : List.set (h ++ l) (List.length h + k) o = h ++ l.set k o := by
  simp [List.set_append]
@[simp] theorem set_at0 {l : HM} : List.set (h ++ l) (List.length h) o = h ++ l.set 0 o := by
  simp [List.set_append]
end
@[simp] theorem ev_eLock {which m : EM} {l : Loc} {h : HM} : eLock which m l h = match which l h with
  | .ok (.ref n) _ => (match h[n]? with
    | some o => (match lockO o with
      | some o' => (match m l (h.set n o') with
        | .ok v h' => .ok v (h'.set n o)
        | _ => .bad)
      | none => .bad)
    | none => .bad)
  | _ => .bad := rfl
@[simp] theorem ev_iKeysA {m : EM} {l : Loc} {h : HM} : iKeysA m l h = (m l h).bind keysSrc := rfl
@[simp] theorem ev_eGet2 {mo me mf : EM} {l : Loc} {h : HM} : eGet2 mo me mf l h = (mo l h).bind fun o h1 => match o with
  | .ref n => if isDict n h1 = true then (me l h1).bind fun y h2 => (mf l h2).bind fun z h3 => match dGet n y h3 with
    | some (some v) => .ok v h3
    | some none => .ok z h3
    | none => .bad else .bad
  | _ => .bad := rfl
def kvI (ks : List Mk) : List (Key × Val) := ks.map fun m => (.inl m.1, .int m.2)
def look (ks : List Mk) (j : Int) : Option Int := (ks.find? fun m => decide (m.1 = j)).map (·.2)
theorem getK_kvI {ks : List Mk} {j : Int} : getK (kvI ks) (.inl j) = (look ks j).map .int := by
  unfold getK kvI look
  induction ks with
  | nil => rfl
  | cons m ks ih =>
    simp only [List.map_cons, List.find?_cons]
    by_cases h : m.1 = j
    · simp [h]
    · have h' : ¬ ((Sum.inl m.1 : Key) = .inl j) := fun e => h (Sum.inl.inj e)
      simp only [h, h', decide_false]
      exact ih
theorem pairs_kvI {ks : List Mk} : pairsBy keyOf (ks.map eM) = some (kvI ks) := by
  induction ks with
  | nil => rfl
  | cons m ks ih => simp only [List.map_cons, eM, pairsBy, keyOf, ih]; rfl
theorem merge_new {κ : Type} [DecidableEq κ] : ∀ {more acc : List (κ × Val)}, (more.map (·.1)).Nodup → (∀ p ∈ more, ∀ q ∈ acc, p.1 ≠ q.1) → mergeV acc more = acc ++ more
  | [], acc, _, _ => by simp [mergeV]
  | p :: more, acc, nd, h => by
    simp only [List.map_cons, List.nodup_cons] at nd
    have e : putV acc p.1 p.2 = acc ++ [p] := by
      unfold putV
      rw [if_neg]
      simp only [List.any_eq_true, not_exists, not_and]
      intro q hq
      simpa using fun e => h p List.mem_cons_self q hq e.symm
    show mergeV (putV acc p.1 p.2) more = _
    rw [e, merge_new nd.2 (fun q hq r hr => ?_), List.append_assoc]
    · rfl
    · rcases List.mem_append.mp hr with hr | hr
      · exact h q (List.mem_cons_of_mem _ hq) r hr
      · simp at hr
        subst hr
        exact fun e => nd.1 (e ▸ List.mem_map_of_mem hq)
theorem merge_kvI {ks : List Mk} (nd : (ks.map (·.1)).Nodup) : mergeV [] (kvI ks) = kvI ks := by
  rw [merge_new (by
    have : (kvI ks).map (·.1) = (ks.map (·.1)).map Sum.inl := by simp [kvI]
    rw [this]
    exact List.pairwise_map.mpr (nd.imp fun h e => h (Sum.inl.inj e))) (by simp)]
  rfl
theorem keys_kvI {ks : List Mk} : (kvI ks).map (fun p => keyV p.1) = ks.map fun m => .int m.1 := by simp [kvI, keyV]
theorem look_some {ks : List Mk} (nd : (ks.map (·.1)).Nodup) {m : Mk} (hm : m ∈ ks) : look ks m.1 = some m.2 := by
  unfold look
  induction ks with
  | nil => cases hm
  | cons k ks ih =>
    simp only [List.map_cons, List.nodup_cons] at nd
    rcases List.mem_cons.mp hm with rfl | hm
    · simp
    · have : ¬ k.1 = m.1 := fun e => nd.1 (e ▸ List.mem_map_of_mem hm)
      simp only [List.find?_cons, this, decide_false]
      exact ih nd.2 hm
theorem look_mem {ks : List Mk} {j c : Int} (e : look ks j = some c) : (j, c) ∈ ks := by
  unfold look at e
  simp only [Option.map_eq_some_iff] at e
  obtain ⟨m, h1, rfl⟩ := e
  have h2 := List.mem_of_find?_eq_some h1
  have h3 := List.find?_some h1
  simp at h3
  subst h3
  exact h2
theorem look_none {ks : List Mk} {j : Int} (e : look ks j = none) : ∀ m ∈ ks, m.1 ≠ j := by
  unfold look at e
  simp only [Option.map_eq_none_iff, List.find?_eq_none] at e
  intro m hm h
  have := e m hm
  simp [h] at this
/-- within, by what stands at the house -/
theorem within_look {ks : List Mk} (nd : (ks.map (·.1)).Nodup) {j c : Int} : within (j, c) ks = match look ks j with | some d => decide (c ≤ d) | none => false := by
  unfold within
  cases e : look ks j with
  | none =>
    simp only [List.any_eq_false]
    intro m hm
    have := look_none e m hm
    simp [this]
  | some d =>
    have hd := look_mem e
    dsimp only
    by_cases h : c ≤ d
    · rw [decide_eq_true h, List.any_eq_true]
      exact ⟨(j, d), hd, by simp [h]⟩
    · rw [decide_eq_false h, List.any_eq_false]
      intro m hm
      by_cases h1 : m.1 = j
      · have h2 := look_some nd hm
        rw [h1, e] at h2
        have : d = m.2 := Option.some.inj h2
        simp [h1]; omega
      · simp [h1]
end MM
namespace MM
open PySem L2 PySem.W
/-- how a thing stands as a value -/
class Enc (α : Type) [DecidableEq α] extends DatumOrd α where
  enc : α → Val
  dat : ∀ a, datF (enc a) = some (toD a)
  noP : ∀ a, noP (enc a) = true
  ok : α → Prop
  lay : ∀ a, ok a → (toD a).canLay0 = true
open Enc
instance : Enc Int where
  enc := .int
  dat a := rfl
  noP a := rfl
  ok _ := True
  lay a _ := rfl
instance : Enc Str where
  enc := .str
  dat a := rfl
  noP a := rfl
  ok x := PyData.strOk x = true
  lay a h := h
section
variable {α β : Type} [DecidableEq α] [Enc α] [DecidableEq β] [Enc β]
theorem datFs_map (xs : List α) : datFs (xs.map enc) = some (xs.map Datum.toD) := by
  induction xs with
  | nil => rfl
  | cons x xs ih => simp [datFs, Enc.dat, ih]
instance : Enc (α × β) where
  enc p := .tup [enc p.1, enc p.2]
  dat p := by
    show (datFs [enc p.1, enc p.2]).map PyData.tuple = _
    simp only [datFs, Enc.dat]
    rfl
  noP p := by
    show noPs [enc p.1, enc p.2] = true
    simp [noPs, Enc.noP]
  ok p := ok p.1 ∧ ok p.2
  lay p h := by
    show PyData.canLay0 (.tuple [Datum.toD p.1, Datum.toD p.2]) = true
    simp [PyData.canLay0, PyData.canLayAll0, Enc.lay _ h.1, Enc.lay _ h.2]
theorem dat_eq {v : Val} {d : PyData} {h : HM} (e : datF v = some d) : dat v h = some d := by
  cases v <;> first | exact e | cases e
theorem lay_all {xs : List α} (hx : ∀ x ∈ xs, ok x) : PyData.canLayAll0 (xs.map Datum.toD) = true := by
  induction xs with
  | nil => rfl
  | cons x xs ih => simp [PyData.canLayAll0, Enc.lay x (hx x List.mem_cons_self), ih fun y hy => hx y (List.mem_cons_of_mem _ hy)]
theorem sh_one {a : α} (ha : ok a) (hd : Datum.depth α ≤ 50) : SeqAt.shaped (Datum.toD a) = true := by
  have := Datum.depth_le a
  unfold SeqAt.shaped
  rw [Enc.lay a ha]
  simp; omega
theorem sh_list {xs : List α} (hx : ∀ x ∈ xs, ok x) (hd : Datum.depth α ≤ 50) : SeqAt.shaped (.list (xs.map Datum.toD)) = true := by
  have := PySem.W.depthAll_map xs
  unfold SeqAt.shaped
  simp only [PyData.canLay0, lay_all hx, PyData.depth]
  simp; omega
theorem sh_tup {xs : List α} (hx : ∀ x ∈ xs, ok x) (hd : Datum.depth α ≤ 50) : SeqAt.shaped (.tuple (xs.map Datum.toD)) = true := by
  have := PySem.W.depthAll_map xs
  unfold SeqAt.shaped
  simp only [PyData.canLay0, lay_all hx, PyData.depth]
  simp; omega
theorem eqE {a b : α} {h : HM} (ha : ok a) (hb : ok b) (hd : Datum.depth α ≤ 50 := by decide) : vEq (enc a) (enc b) h = .ok (.bl (decide (a = b))) h := by
  unfold vEq
  rw [dat_eq (Enc.dat a), dat_eq (Enc.dat b)]
  simp only [sh_one ha hd, sh_one hb hd, Bool.and_self, if_true, Datum.eqv]
theorem any_eqE {a : α} {xs : List α} : anyEq (Datum.toD a) (xs.map Datum.toD) = decide (a ∈ xs) := by
  unfold anyEq
  rw [List.any_map]
  induction xs with
  | nil => rfl
  | cons x xs ih =>
    rw [List.any_cons, ih]
    simp only [Function.comp, Datum.eqv]
    by_cases h : x = a
    · subst h; simp
    · have h' : ¬ a = x := fun e => h e.symm
      by_cases h2 : a ∈ xs <;> simp [h, h', h2]
theorem in_lst {a : α} {xs : List α} {h : HM} (ha : ok a) (hx : ∀ x ∈ xs, ok x) (hd : Datum.depth α ≤ 50 := by decide) : inB (enc a) (.lst (xs.map enc)) h = some (decide (a ∈ xs)) := by
  have e : inB (enc a) (.lst (xs.map enc)) h = (match dat (enc a) h, dat (.lst (xs.map enc)) h with
    | some d, some (.list ds) => if (SeqAt.shaped d && SeqAt.shaped (.list ds)) = true then some (anyEq d ds) else none
    | some d, some (.tuple ds) => if (SeqAt.shaped d && SeqAt.shaped (.tuple ds)) = true then some (anyEq d ds) else none
    | _, _ => none) := by cases hv : enc a <;> rfl
  have e2 : dat (.lst (xs.map enc)) h = some (.list (xs.map Datum.toD)) := by
    show (datFs (xs.map enc)).map PyData.list = _
    rw [datFs_map]; rfl
  rw [e, dat_eq (Enc.dat a), e2]
  simp only [sh_one ha hd, sh_list hx hd, Bool.and_self, if_true, any_eqE]
theorem in_tup {a : α} {xs : List α} {v : Val} {h : HM} (hv : tupL v = some (xs.map enc)) (ha : ok a) (hx : ∀ x ∈ xs, ok x) (hd : Datum.depth α ≤ 50 := by decide) : inB (enc a) v h = some (decide (a ∈ xs)) := by
  have e : inB (enc a) v h = (match dat (enc a) h, dat v h with
    | some d, some (.list ds) => if (SeqAt.shaped d && SeqAt.shaped (.list ds)) = true then some (anyEq d ds) else none
    | some d, some (.tuple ds) => if (SeqAt.shaped d && SeqAt.shaped (.tuple ds)) = true then some (anyEq d ds) else none
    | _, _ => none) := by cases v <;> first | (cases hv; done) | (cases hw : enc a <;> rfl)
  have e2 : dat v h = some (.tuple (xs.map Datum.toD)) := by
    cases v <;> first
      | (cases hv; done)
      | (cases hv; show (datFs (xs.map enc)).map PyData.tuple = _; rw [datFs_map]; rfl)
  rw [e, dat_eq (Enc.dat a), e2]
  simp only [sh_one ha hd, sh_tup hx hd, Bool.and_self, if_true, any_eqE]
theorem vIn_lst {a : α} {xs : List α} {h : HM} (ha : ok a) (hx : ∀ x ∈ xs, ok x) (hd : Datum.depth α ≤ 50 := by decide) : vIn (enc a) (.lst (xs.map enc)) h = .ok (.bl (decide (a ∈ xs))) h := by simp only [vIn, in_lst ha hx hd]
theorem vNotIn_lst {a : α} {xs : List α} {h : HM} (ha : ok a) (hx : ∀ x ∈ xs, ok x) (hd : Datum.depth α ≤ 50 := by decide) : vNotIn (enc a) (.lst (xs.map enc)) h = .ok (.bl (!decide (a ∈ xs))) h := by simp only [vNotIn, in_lst ha hx hd]
theorem vIn_tup {a : α} {xs : List α} {v : Val} {h : HM} (hv : tupL v = some (xs.map enc)) (ha : ok a) (hx : ∀ x ∈ xs, ok x) (hd : Datum.depth α ≤ 50 := by decide) : vIn (enc a) v h = .ok (.bl (decide (a ∈ xs))) h := by simp only [vIn, in_tup hv ha hx hd]
def srt (xs : List α) : List α := xs.mergeSort fun a b => !DatumOrd.lt b a
theorem sortV_enc (xs : List α) : sortV (xs.map enc) (xs.map Datum.toD) = (srt xs).map enc := by
  unfold sortV srt
  have e : (xs.map enc).zip (xs.map (Datum.toD : α → PyData)) = xs.map fun x => (enc x, Datum.toD x) := by
    induction xs with
    | nil => rfl
    | cons x xs ih => simp [ih]
  rw [e, ← List.map_mergeSort (r := fun a b : α => !DatumOrd.lt b a) (f := fun x : α => (enc x, Datum.toD x)) (fun a _ b _ => ?_), List.map_map]
  · rfl
  · show (!DatumOrd.lt b a) = !dataLt (Datum.toD b) (Datum.toD a)
    rw [DatumOrd.lt_eq]
theorem canSort {xs : List α} (hs : Sortable (xs.map (Datum.toD : α → PyData))) (hl : xs.length ≤ 1000000) (hd : Datum.depth α ≤ 50) : CanSort (xs.map (Datum.toD : α → PyData)) := by
  refine ⟨?_, hs, by rw [sizeLine_eq]; simp; omega, ?_⟩
  · intro d hd d' hd'
    obtain ⟨x, _, rfl⟩ := List.mem_map.mp hd
    obtain ⟨y, _, rfl⟩ := List.mem_map.mp hd'
    exact DatumOrd.alike x y
  · intro d hm
    obtain ⟨x, _, rfl⟩ := List.mem_map.mp hm
    have := Datum.depth_le x
    omega
theorem sorted_lst {xs : List α} {h : HM} (hs : Sortable (xs.map (Datum.toD : α → PyData))) (hl : xs.length ≤ 1000000) (hd : Datum.depth α ≤ 50 := by decide) : bSorted [.lst (xs.map enc)] h = .ok (.lst ((srt xs).map enc)) h := by
  simp only [bSorted, sortItems, datFs_map, if_pos (canSort hs hl hd), sortV_enc]
theorem sortable_pair (xs : List (α × β)) : Sortable (xs.map (Datum.toD : α × β → PyData)) := .inl fun d hd => by
  obtain ⟨x, _, rfl⟩ := List.mem_map.mp hd
  exact ⟨_, _, rfl⟩
theorem sortable_int (xs : List Int) : Sortable (xs.map (Datum.toD : Int → PyData)) := .inr fun d hd => by
  obtain ⟨x, _, rfl⟩ := List.mem_map.mp hd
  exact ⟨(by intro e; cases e), fun ys e => (by cases e)⟩
theorem srt_mem {xs : List α} {x : α} : x ∈ srt xs ↔ x ∈ xs := by unfold srt; exact List.mem_mergeSort
theorem srt_perm (xs : List α) : (srt xs).Perm xs := List.mergeSort_perm _ _
theorem srt_len (xs : List α) : (srt xs).length = xs.length := by unfold srt; simp
end
end MM
namespace MM
open PySem L2 PySem.W
/-- a total order -/
class EncO (α : Type) [DecidableEq α] extends Enc α where
  tri : ∀ a b : α, DatumOrd.lt a b = false → DatumOrd.lt b a = false → a = b
  asym : ∀ a b : α, DatumOrd.lt a b = true → DatumOrd.lt b a = false
  tran : ∀ a b c : α, DatumOrd.lt b a = false → DatumOrd.lt c b = false → DatumOrd.lt c a = false
open EncO
instance : EncO Int where
  tri a b h g := by
    simp only [DatumOrd.lt, decide_eq_false_iff_not] at h g; omega
  asym a b h := by
    simp only [DatumOrd.lt, decide_eq_true_eq, decide_eq_false_iff_not] at h ⊢; omega
  tran a b c h g := by
    simp only [DatumOrd.lt, decide_eq_false_iff_not] at h g ⊢; omega
instance : EncO Str where
  tri a b h g := by
    simp only [DatumOrd.lt, decide_eq_false_iff_not] at h g
    have := List.le_antisymm (List.not_lt.mp g) (List.not_lt.mp h)
    rw [sg_of a, sg_of b, this]
  asym a b h := by
    simp only [DatumOrd.lt, decide_eq_true_eq, decide_eq_false_iff_not] at h ⊢
    exact List.lt_asymm h
  tran a b c h g := by
    simp only [DatumOrd.lt, decide_eq_false_iff_not] at h g ⊢
    exact List.not_lt.mpr (List.le_trans (List.not_lt.mp h) (List.not_lt.mp g))
section
variable {α β : Type} [DecidableEq α] [EncO α] [DecidableEq β] [EncO β]
theorem lt_pair (a b : α × β) : DatumOrd.lt a b = if a.1 = b.1 then DatumOrd.lt a.2 b.2 else DatumOrd.lt a.1 b.1 := rfl
instance : EncO (α × β) where
  tri a b h g := by
    rw [lt_pair] at h g
    by_cases e : a.1 = b.1
    · rw [if_pos e] at h; rw [if_pos e.symm] at g
      exact Prod.ext e (tri _ _ h g)
    · rw [if_neg e] at h; rw [if_neg fun x => e x.symm] at g
      exact absurd (tri _ _ h g) e
  asym a b h := by
    rw [lt_pair] at h ⊢
    by_cases e : a.1 = b.1
    · rw [if_pos e] at h; rw [if_pos e.symm]; exact asym _ _ h
    · rw [if_neg e] at h; rw [if_neg fun x => e x.symm]; exact asym _ _ h
  tran a b c h g := by
    rw [lt_pair] at h g ⊢
    by_cases e1 : a.1 = b.1
    · rw [if_pos e1.symm] at h
      by_cases e2 : b.1 = c.1
      · rw [if_pos e2.symm] at g
        rw [if_pos (e1.trans e2).symm]
        exact tran _ _ _ h g
      · rw [if_neg fun x => e2 x.symm] at g
        rw [if_neg fun x => e2 (e1.symm.trans x.symm), e1]
        exact g
    · rw [if_neg fun x => e1 x.symm] at h
      by_cases e2 : b.1 = c.1
      · rw [if_neg fun x => e1 (x.symm.trans e2.symm), ← e2]
        exact h
      · rw [if_neg fun x => e2 x.symm] at g
        by_cases e3 : c.1 = a.1
        · rw [e3] at g
          exact absurd (tri _ _ g h) e1
        · rw [if_neg e3]; exact tran _ _ _ h g
theorem srt_pw (xs : List α) : List.Pairwise (fun a b => DatumOrd.lt b a = false) (srt xs) := by
  have := List.pairwise_mergeSort (le := fun a b : α => !DatumOrd.lt b a) (fun a b c h g => by
    simp only [Bool.not_eq_true'] at h g ⊢
    exact tran a b c h g) (fun a b => by
    cases e : DatumOrd.lt b a with
    | false => rfl
    | true => rw [asym b a e]; rfl) xs
  unfold srt
  exact this.imp fun h => by simpa using h
theorem srt_eq {xs ys : List α} (hx : xs.Nodup) (hy : ys.Nodup) (h : ∀ a, a ∈ xs ↔ a ∈ ys) : srt xs = srt ys := by
  have p : (srt xs).Perm (srt ys) := (srt_perm xs).trans (((List.perm_ext_iff_of_nodup hx hy).mpr h).trans (srt_perm ys).symm)
  exact List.Perm.eq_of_pairwise (le := fun a b => DatumOrd.lt b a = false) (fun a b _ _ h g => tri a b g h) (srt_pw xs) (srt_pw ys) p
theorem srt_nd {xs : List α} (h : xs.Nodup) : (srt xs).Nodup := (srt_perm xs).nodup_iff.mpr h
theorem srt_srt (xs : List α) : srt (srt xs) = srt xs :=
  List.Perm.eq_of_pairwise (le := fun a b => DatumOrd.lt b a = false) (fun a b _ _ h g => tri a b g h) (srt_pw _) (srt_pw _) (srt_perm _)
/-- sorted -/
def Sd (xs : List α) : Prop := srt xs = xs
theorem sd_of_pw {xs : List α} (h : List.Pairwise (fun a b => DatumOrd.lt a b = true) xs) : Sd xs :=
  List.Perm.eq_of_pairwise (le := fun a b => DatumOrd.lt b a = false) (fun a b _ _ h g => tri a b g h) (srt_pw _) (h.imp fun e => asym _ _ e) (srt_perm _)
theorem sd_eq {xs ys : List α} (sx : Sd xs) (sy : Sd ys) (hx : xs.Nodup) (hy : ys.Nodup) (h : ∀ a, a ∈ xs ↔ a ∈ ys) : xs = ys := by
  have := srt_eq hx hy h
  rwa [sx, sy] at this
end
def putI (ks : List Mk) (m : Mk) : List Mk := if (ks.any fun k => decide (k.1 = m.1)) = true then ks.map (fun k => if k.1 = m.1 then (k.1, m.2) else k) else ks ++ [m]
theorem put_kvI {ks : List Mk} {j c : Int} : putV (kvI ks) (.inl j) (.int c) = kvI (putI ks (j, c)) := by
  have inl : ∀ a b : Int, decide ((Sum.inl a : Key) = .inl b) = decide (a = b) := fun a b => by
    by_cases h : a = b
    · simp [h]
    · have : ¬ ((Sum.inl a : Key) = .inl b) := fun e => h (Sum.inl.inj e)
      simp [h, this]
  have inl2 : ∀ a b : Int, ((Sum.inl a : Key) = .inl b) ↔ a = b := fun a b => ⟨fun e => Sum.inl.inj e, fun e => e ▸ rfl⟩
  have ea : ((kvI ks).any fun kv => decide (kv.1 = Sum.inl j)) = ks.any fun k => decide (k.1 = j) := by
    simp only [kvI, List.any_map, Function.comp_def, inl]
  unfold putV putI
  rw [ea]
  split
  · simp only [kvI, List.map_map]
    refine List.map_congr_left fun m hm => ?_
    simp only [Function.comp_def, inl2]
    by_cases h : m.1 = j <;> simp [h]
  · simp [kvI]
theorem putI_keys {ks : List Mk} {m : Mk} (nd : (ks.map (·.1)).Nodup) : ((putI ks m).map (·.1)).Nodup := by
  unfold putI
  split
  · have : (ks.map fun k => if k.1 = m.1 then (k.1, m.2) else k).map (·.1) = ks.map (·.1) := by
      rw [List.map_map]
      refine List.map_congr_left fun k hk => ?_
      simp only [Function.comp]
      split <;> rfl
    rw [this]; exact nd
  · rename_i h
    rw [List.map_append, List.nodup_append]
    refine ⟨nd, by simp, fun a ha b hb => ?_⟩
    simp at hb
    subst hb
    simp only [List.mem_map] at ha
    obtain ⟨k, hk, rfl⟩ := ha
    intro e
    apply h
    rw [List.any_eq_true]
    exact ⟨k, hk, by simp [e]⟩
theorem look_of {ks : List Mk} (nd : (ks.map (·.1)).Nodup) {j c : Int} (h : (j, c) ∈ ks) : look ks j = some c := look_some nd h
theorem putI_look {ks : List Mk} {m : Mk} (nd : (ks.map (·.1)).Nodup) {j : Int} : look (putI ks m) j = if j = m.1 then some m.2 else look ks j := by
  have nd2 := putI_keys (m := m) nd
  by_cases h : j = m.1
  · rw [if_pos h]
    subst h
    refine look_of nd2 ?_
    unfold putI
    split
    · rename_i h
      rw [List.any_eq_true] at h
      obtain ⟨k, hk, e⟩ := h
      exact List.mem_map.mpr ⟨k, hk, by simp at e; simp [e]⟩
    · simp
  · rw [if_neg h]
    cases e : look ks j with
    | some c =>
      refine look_of nd2 ?_
      have := look_mem e
      unfold putI
      split
      · exact List.mem_map.mpr ⟨_, this, by simp [h]⟩
      · simp [this]
    | none =>
      have hn := look_none e
      cases e2 : look (putI ks m) j with
      | none => rfl
      | some c =>
        have := look_mem e2
        unfold putI at this
        split at this
        · obtain ⟨k, hk, ek⟩ := List.mem_map.mp this
          exfalso
          by_cases hk2 : k.1 = m.1
          · rw [if_pos hk2] at ek
            exact h (by rw [← hk2]; exact (congrArg Prod.fst ek).symm)
          · rw [if_neg hk2] at ek
            exact hn k hk (by rw [ek])
        · exfalso
          rcases List.mem_append.mp this with hm | hm
          · exact hn _ hm rfl
          · simp at hm
            exact h (by rw [← hm])
theorem putI_len {ks : List Mk} {m : Mk} : (putI ks m).length ≤ ks.length + 1 := by
  unfold putI; split <;> simp
def upd1 (acc : List Mk) (m : Mk) : List Mk := putI acc (m.1, max m.2 ((look acc m.1).getD 0))
def joinK (a b : List Mk) : List Mk := b.foldl upd1 a
theorem joinK_keys {a : List Mk} (nd : (a.map (·.1)).Nodup) : ∀ {b : List Mk}, ((joinK a b).map (·.1)).Nodup := by
  intro b
  induction b generalizing a with
  | nil => exact nd
  | cons m b ih => exact ih (putI_keys nd)
theorem joinK_len {b : List Mk} : ∀ {a : List Mk}, (joinK a b).length ≤ a.length + b.length := by
  induction b with
  | nil => intro a; exact Nat.le_refl _
  | cons m b ih =>
    intro a
    have h1 := ih (a := upd1 a m)
    have h2 : (upd1 a m).length ≤ a.length + 1 := putI_len
    show (joinK (upd1 a m) b).length ≤ _
    simp only [List.length_cons]; omega
theorem upd1_within {a : List Mk} (nd : (a.map (·.1)).Nodup) {m p : Mk} (hm : 0 < m.2) : within p (upd1 a m) = (within p a || within p [m]) := by
  have nd2 : ((upd1 a m).map (·.1)).Nodup := putI_keys nd
  rw [show p = (p.1, p.2) from rfl, within_look nd2, within_look nd]
  unfold upd1
  rw [putI_look nd]
  have e1 : within (p.1, p.2) [m] = (decide (m.1 = p.1) && decide (p.2 ≤ m.2)) := by simp [within]
  rw [e1]
  by_cases h : p.1 = m.1
  · rw [if_pos h, h]
    cases look a m.1 with
    | none =>
      simp
      by_cases q : p.2 ≤ m.2 <;> simp [q] <;> omega
    | some d =>
      simp
      by_cases q : p.2 ≤ m.2 <;> by_cases q2 : p.2 ≤ d <;> simp [q, q2] <;> omega
  · have h' : ¬ m.1 = p.1 := fun e => h e.symm
    rw [if_neg h]
    simp [h']
theorem within_cons {p m : Mk} {b : List Mk} : within p (m :: b) = (within p [m] || within p b) := by simp [within]
theorem joinK_within {b : List Mk} (hb : ∀ m ∈ b, 0 < m.2) {p : Mk} : ∀ {a : List Mk}, (a.map (·.1)).Nodup → within p (joinK a b) = (within p a || within p b) := by
  induction b with
  | nil => intro a nd; simp [joinK, within]
  | cons m b ih =>
    intro a nd
    show within p (joinK (upd1 a m) b) = _
    rw [ih (fun k hk => hb k (List.mem_cons_of_mem _ hk)) (a := upd1 a m) (putI_keys nd), upd1_within nd (hb m List.mem_cons_self), within_cons (m := m) (b := b), Bool.or_assoc]
theorem joinK_pos {b : List Mk} (hb : ∀ m ∈ b, 0 < m.2) : ∀ {a : List Mk}, (∀ m ∈ a, 0 < m.2) → ∀ m ∈ joinK a b, 0 < m.2 := by
  induction b with
  | nil => intro a ha; exact ha
  | cons m b ih =>
    intro a ha
    refine ih (fun k hk => hb k (List.mem_cons_of_mem _ hk)) (a := upd1 a m) ?_
    have := hb m List.mem_cons_self
    have hmax : 0 < max m.2 ((look a m.1).getD 0) := by omega
    intro k hk
    unfold upd1 putI at hk
    split at hk
    · obtain ⟨q, hq, e⟩ := List.mem_map.mp hk
      by_cases h : q.1 = m.1
      · rw [if_pos h] at e; subst e; exact hmax
      · rw [if_neg h] at e; subst e; exact ha q hq
    · rcases List.mem_append.mp hk with hk | hk
      · exact ha k hk
      · simp at hk; subst hk; exact hmax
theorem within_srt {p : Mk} {ks : List Mk} : within p (srt ks) = within p ks := by
  rw [Bool.eq_iff_iff, within, within, List.any_eq_true, List.any_eq_true]
  simp only [srt_mem]
theorem keys_srt {ks : List Mk} (nd : (ks.map (·.1)).Nodup) : ((srt ks).map (·.1)).Nodup := ((srt_perm ks).map _).nodup_iff.mpr nd
theorem nd_of_keys {ks : List Mk} (nd : (ks.map (·.1)).Nodup) : ks.Nodup := (List.pairwise_map.mp nd).imp fun h e => h (congrArg Prod.fst e)
theorem mem_within {ks : List Mk} (nd : (ks.map (·.1)).Nodup) {m : Mk} : m ∈ ks ↔ within m ks = true ∧ within (m.1, m.2 + 1) ks = false := by
  rw [show m = (m.1, m.2) from rfl, within_look nd, within_look nd]
  constructor
  · intro h; rw [look_of nd h]; simp; omega
  · rintro ⟨h1, h2⟩
    cases e : look ks m.1 with
    | none => rw [e] at h1; cases h1
    | some d =>
      rw [e] at h1 h2
      simp at h1 h2
      have : d = m.2 := by omega
      subst this
      exact look_mem e
/-- known things are told by what is within -/
theorem known_eq {ks js : List Mk} (n1 : (ks.map (·.1)).Nodup) (n2 : (js.map (·.1)).Nodup) (s1 : Sd ks) (s2 : Sd js) (h : ∀ p, within p ks = within p js) : ks = js :=
  sd_eq s1 s2 (nd_of_keys n1) (nd_of_keys n2) fun m => by rw [mem_within n1, mem_within n2, h, h]
end MM
namespace MM
open PySem L2 PySem.W
noncomputable section
def m_known_together_f0 : SM := sSub (eVar 2) (eVar 3) (eBi bMax (aCons (eVar 4) (aCons (eGet2 (eVar 2) (eVar 3) (eC (.int 0))) (aNil))))
def m_known_together : FM := mF 5 (sSeq (sAsg (eBi bDictK (aCons (eLc (iVal (eVar 0)) (gTp 2 (gsCons (gNm 3) (gsCons (gNm 4) (gsNil)))) (tYesM) (eDisp mkTup (aCons (eVar 3) (aCons (eVar 4) (aNil)))) [3, 4] frozen) (aNil))) (gNm 2))
  (sSeq (sFor (iVal (eVar 1)) (gTp 2 (gsCons (gNm 3) (gsCons (gNm 4) (gsNil)))) m_known_together_f0)
  (sRet (eBi bTuple (aCons (eBi bSorted (aCons (eLock (eVar 2) (eLc (iKeysA (eVar 2)) (gNm 3) (tYesM) (eDisp mkTup (aCons (eVar 3) (aCons (e2 vIx (eVar 2) (eVar 3)) (aNil)))) [3] frozen)) (aNil))) (aNil))))))
def m_kept_of : FM := mF 4 (sRet (eLc (iVal (eVar 0)) (gNm 3) (tOrM (tOf (e2 vIn (eVar 3) (eVar 1))) (tNotM (tTru (eCall m_is_within (aCons (e2 vIx (eVar 3) (eC (.int 0))) (aCons (eVar 2) (aNil))))))) (eVar 3) [3] frozen))
theorem intsV_at {n i : Nat} {lo : Int} {x : Val} (h : (intsV lo n)[i]? = some x) : i < n ∧ x = .int (lo + (i : Nat)) := by
  simp only [intsV] at h
  by_cases hi : i < n
  · simp [hi] at h; exact ⟨hi, h.symm⟩
  · simp [hi] at h
theorem look_at' {ks : List Mk} (nd : (ks.map (·.1)).Nodup) {m : Mk} (hm : m ∈ ks) : getK (kvI ks) (.inl m.1) = some (.int m.2) := by rw [getK_kvI, look_some nd hm]; rfl
theorem maxI {i j : Int} {h : HM} : bMax [.int i, .int j] h = .ok (.int (max i j)) h := by
  show Res.ok (Val.int (if j > i then j else i)) h = _
  congr 2; split <;> omega
theorem joinK_take {a b : List Mk} {i : Nat} {m : Mk} (e : b[i]? = some m) : joinK a (b.take (i + 1)) = upd1 (joinK a (b.take i)) m := by
  unfold joinK
  rw [List.take_add_one, e]
  simp
theorem at_knownT {a b : List Mk} {v w : Val} {h : HM} (hv : tupL v = some (a.map eM)) (hw : tupL w = some (b.map eM)) (nd : (a.map (·.1)).Nodup) (la : a.length ≤ 1000) (lb : b.length ≤ 1000) :
    m_known_together [v, w] h = .ok (.tup ((srt (joinK a b)).map eM)) (h ++ [.dK (kvI (joinK a b))]) := by
  have hp : ∀ h, bDictK [.lst (a.map eM)] h = .ok (.ref (List.length h)) (h ++ [.dK (kvI a)]) := fun h => by simp only [bDictK, pairs_kvI, merge_kvI nd]
  obtain ⟨l', h', e, ⟨a3, a4, e1, e2⟩⟩ := for_inv (xs := b.map eM) (g := gTp 2 (gsCons (gNm 3) (gsCons (gNm 4) (gsNil)))) (b := m_known_together_f0) (l := [some v, some w, some (.ref (List.length h)), none, none]) (h := h ++ [.dK (kvI a)])
    (fun i l h' => ∃ a3 a4, l = [some v, some w, some (.ref (List.length h)), a3, a4] ∧ h' = h ++ [.dK (kvI (joinK a (b.take i)))]) ⟨_, _, rfl, rfl⟩ (by
    rintro i x l h' hx ⟨a3, a4, rfl, rfl⟩
    rw [List.getElem?_map] at hx
    cases em : b[i]? with
    | none => rw [em] at hx; cases hx
    | some m =>
      rw [em] at hx
      cases hx
      rw [joinK_take em]
      have hl : (kvI (joinK a (b.take i))).length < sizeLine := by
        have := joinK_len (a := a) (b := b.take i)
        rw [sizeLine_eq]; simp only [kvI, List.length_map]
        have h2 : (b.take i).length ≤ b.length := by simp; omega
        omega
      generalize joinK a (b.take i) = ks at hl
      refine ⟨[some v, some w, some (.ref (List.length h)), some (.int m.1), some (.int m.2)], [some v, some w, some (.ref (List.length h)), some (.int m.1), some (.int m.2)], _, rfl, ?_, _, _, rfl, rfl⟩
      have g := getK_kvI (ks := ks) (j := m.1)
      have pu : putV (kvI ks) (.inl m.1) (.int (max m.2 ((look ks m.1).getD 0))) = kvI (upd1 ks m) := put_kvI
      have si : ∀ c, setI (.ref (List.length h)) (.int m.1) (.int c) (h ++ [.dK (kvI ks)]) = some (h ++ [.dK (putV (kvI ks) (.inl m.1) (.int c))]) := fun c => by
        simp only [setI, last_get, if_pos hl, keyOf, Option.map_some, last_set]
      unfold m_known_together_f0 sSub
      cases el : look ks m.1 with
      | none =>
        rw [el] at g pu
        simp [isDict, dGet, keyOf, g, maxI]
        simp only [si]
        exact congrArg (fun z => SRes.nx _ (h ++ [.dK z])) pu
      | some d =>
        rw [el] at g pu
        simp [isDict, dGet, keyOf, g, maxI]
        simp only [si]
        exact congrArg (fun z => SRes.nx _ (h ++ [.dK z])) pu)
  have hlen : (b.map eM).length = b.length := by simp
  rw [hlen, List.take_length] at e2
  have ndj := joinK_keys (b := b) nd
  have lj := joinK_len (a := a) (b := b)
  unfold m_known_together mF
  simp [src_tup hv]
  rw [lc_mapM (f := eM) (fun m hm => ⟨_, rfl, by simp [eM, wipeL]⟩) (by rw [sizeLine_eq]; omega)]
  simp [hp, src_tup hw]
  rw [e, e1, e2]
  generalize joinK a b = ks at ndj lj
  simp [lockO, keysSrc, keys_kvI]
  rw [lc_mapM (e := fun m : Mk => .int m.1) (f := eM) (fun m hm => ⟨_, rfl, by simp [eM, wipeL, vIx, dGet, keyOf, look_at' ndj hm]⟩) (by rw [sizeLine_eq]; omega)]
  have so := fun h => sorted_lst (h := h) (xs := ks) (sortable_pair ks) (by omega)
  simp only [show (fun m : Mk => (Enc.enc m : Val)) = eM from rfl] at so
  simp [bTuple, seqL, so]
/-- known together, forgetting how -/
def mksOf : List Val → Option (List Mk)
  | [] => some []
  | x :: xs => match isMk x, mksOf xs with
    | some m, some ms => some (m :: ms)
    | _, _ => none
theorem mksOf_map (ms : List Mk) : mksOf (ms.map eM) = some ms := by
  induction ms with
  | nil => rfl
  | cons m ms ih => simp [mksOf, isMk_eM, ih]
theorem mksOf_eq {xs : List Val} {ms : List Mk} (e : mksOf xs = some ms) : xs = ms.map eM := by
  induction xs generalizing ms with
  | nil => cases e; rfl
  | cons x xs ih =>
    simp only [mksOf] at e
    split at e
    · rename_i m ms' e1 e2
      cases e
      rw [List.map_cons, eM_of e1, ih e2]
    · cases e
def s_known_together : FM := fun xs h => match xs with
  | [v, w] => (match (tupL v).bind mksOf, (tupL w).bind mksOf with
    | some a, some b => if (a.map (·.1)).Nodup ∧ a.length ≤ 1000 ∧ b.length ≤ 1000 then .ok (.tup ((srt (joinK a b)).map eM)) h else .bad
    | _, _ => .bad)
  | _ => .bad
theorem tup_mks {v : Val} {a : List Mk} (e : (tupL v).bind mksOf = some a) : tupL v = some (a.map eM) := by
  cases e1 : tupL v with
  | none => rw [e1] at e; cases e
  | some xs => rw [e1] at e; rw [mksOf_eq (xs := xs) e]
theorem le_known_together (xs : List Val) (h : HM) (_ : xs.length = 2) (w : Wf h) (_ : CloS h.length xs) : Le h (s_known_together xs h) (m_known_together xs h) := by
  unfold s_known_together
  split
  · split
    · rename_i a b e1 e2
      split
      · rename_i hh
        rw [at_knownT (tup_mks e1) (tup_mks e2) hh.1 hh.2.1 hh.2.2]
        exact .pure w (.tup (frz_mks _))
      · exact .bad
    · exact .bad
  · exact .bad
theorem knownT_ok {a b : List Mk} {v w : Val} {h : HM} (hv : tupL v = some (a.map eM)) (hw : tupL w = some (b.map eM)) (nd : (a.map (·.1)).Nodup) (la : a.length ≤ 1000) (lb : b.length ≤ 1000) :
    s_known_together [v, w] h = .ok (.tup ((srt (joinK a b)).map eM)) h := by
  simp [s_known_together, hv, hw, mksOf_map, nd, la, lb]
abbrev Wd := Mk × Str
def eW (p : Wd) : Val := .tup [eM p.1, .str p.2]
theorem encW : (Enc.enc : Wd → Val) = eW := rfl
def okW (xs : List Wd) : Prop := ∀ x ∈ xs, PyData.strOk x.2 = true
theorem okW_ok {xs : List Wd} (h : okW xs) : ∀ x ∈ xs, Enc.ok x := fun x hx => ⟨⟨trivial, trivial⟩, h x hx⟩
def kept (mine yours : List Wd) (ks : List Mk) : List Wd := mine.filter fun p => decide (p ∈ yours) || !within p.1 ks
theorem at_kept {xs ys : List Wd} {ks : List Mk} {v w k : Val} {h : HM} (hv : tupL v = some (xs.map eW)) (hw : tupL w = some (ys.map eW)) (hk : tupL k = some (ks.map eM)) (lx : xs.length ≤ 1000) (lk : ks.length ≤ 1000) (ox : okW xs) (oy : okW ys) :
    m_kept_of [v, w, k] h = .ok (.lst ((kept xs ys ks).map eW)) h := by
  unfold m_kept_of mF
  simp [src_tup hv]
  have hin : ∀ p ∈ xs, ∀ h, vIn (eW p) w h = .ok (.bl (decide (p ∈ ys))) h := fun p hp h => by
    rw [← encW] at hw ⊢
    rw [vIn_tup hw (okW_ok ox p hp) (okW_ok oy)]
    congr 2
    exact Bool.eq_iff_iff.mpr (by simp)
  have ix0 : ∀ (p : Wd) h, vIx (eW p) (.int 0) h = .ok (eM p.1) h := fun p h => rfl
  rw [lc_filterM (fun p => decide (p ∈ ys) || !within p.1 ks) eW (fun p hp => ⟨_, rfl, by
    by_cases q : p ∈ ys <;> simp [wipeL, hin p hp, ix0, at_within hk (by omega : ks.length ≤ 1000000), q], fun _ => by simp [wipeL]⟩) (by rw [sizeLine_eq]; omega)]
  rfl
end
end MM
namespace MM
open PySem L2 PySem.W
noncomputable section
def m_marked_together : FM := mF 6 (sSeq (sAsg (eCall m_kept_of (aCons (eVar 0) (aCons (eVar 2) (aCons (eVar 3) (aNil))))) (gNm 4))
  (sSeq (sAsg (e2 vAdd (eVar 4) (eLc (iVal (eCall m_kept_of (aCons (eVar 2) (aCons (eVar 0) (aCons (eVar 1) (aNil)))))) (gNm 5) (tOf (e2 vNotIn (eVar 5) (eVar 4))) (eVar 5) [5] frozen)) (gNm 4))
  (sRet (eBi bTuple (aCons (eBi bSorted (aCons (eVar 4) (aNil))) (aNil))))))
def m_put_together : FM := mF 4 (sSeq (sAsg (eCall s_known_together (aCons (e2 vIx (eVar 0) (eC (.int 2))) (aCons (e2 vIx (eVar 1) (eC (.int 2))) (aNil)))) (gNm 2))
  (sSeq (sAsg (eCall m_marked_together (aCons (e2 vIx (eVar 0) (eC (.int 3))) (aCons (e2 vIx (eVar 0) (eC (.int 2))) (aCons (e2 vIx (eVar 1) (eC (.int 3))) (aCons (e2 vIx (eVar 1) (eC (.int 2))) (aNil)))))) (gNm 3))
  (sRet (eDisp mkTup (aCons (e2 vIx (eVar 0) (eC (.int 0))) (aCons (e2 vIx (eVar 0) (eC (.int 1))) (aCons (eVar 2) (aCons (eVar 3) (aCons (eCall m_marked_together (aCons (e2 vIx (eVar 0) (eC (.int 4))) (aCons (e2 vIx (eVar 0) (eC (.int 2))) (aCons (e2 vIx (eVar 1) (eC (.int 4))) (aCons (e2 vIx (eVar 1) (eC (.int 2))) (aNil)))))) (aNil))))))))))
def joinW (x : List Wd) (kx : List Mk) (y : List Wd) (ky : List Mk) : List Wd := kept x y ky ++ (kept y x kx).filter fun p => decide (p ∉ kept x y ky)
theorem mem_joinW {x y : List Wd} {kx ky : List Mk} {p : Wd} : p ∈ joinW x kx y ky ↔ (p ∈ x ∧ (p ∈ y ∨ within p.1 ky = false)) ∨ (p ∈ y ∧ (p ∈ x ∨ within p.1 kx = false)) := by
  have e1 : p ∈ kept x y ky ↔ p ∈ x ∧ (p ∈ y ∨ within p.1 ky = false) := by simp [kept]
  have e2 : p ∈ kept y x kx ↔ p ∈ y ∧ (p ∈ x ∨ within p.1 kx = false) := by simp [kept]
  unfold joinW
  rw [List.mem_append, List.mem_filter, decide_eq_true_eq, e2, e1]
  constructor
  · rintro (h | h)
    · exact .inl h
    · exact .inr h.1
  · rintro (h | h)
    · exact .inl h
    · by_cases q : p ∈ x ∧ (p ∈ y ∨ within p.1 ky = false)
      · exact .inl q
      · exact .inr ⟨h, q⟩
theorem kept_len {x y : List Wd} {k : List Mk} : (kept x y k).length ≤ x.length := List.length_filter_le _ _
theorem joinW_len {x y : List Wd} {kx ky : List Mk} : (joinW x kx y ky).length ≤ x.length + y.length := by
  unfold joinW
  have h1 := kept_len (x := x) (y := y) (k := ky)
  have h2 := kept_len (x := y) (y := x) (k := kx)
  have h3 := List.length_filter_le (fun p => decide (p ∉ kept x y ky)) (kept y x kx)
  rw [List.length_append]; omega
theorem joinW_nd {x y : List Wd} {kx ky : List Mk} (hx : x.Nodup) (hy : y.Nodup) : (joinW x kx y ky).Nodup := by
  unfold joinW
  rw [List.nodup_append]
  refine ⟨hx.filter _, (hy.filter _).filter _, fun a ha b hb => ?_⟩
  rw [List.mem_filter, decide_eq_true_eq] at hb
  rintro rfl
  exact hb.2 ha
theorem okW_sub {xs ys : List Wd} (h : okW xs) (hs : ∀ p ∈ ys, p ∈ xs) : okW ys := fun p hp => h p (hs p hp)
theorem okW_srt {xs : List Wd} (h : okW xs) : okW (srt xs) := okW_sub h fun p hp => srt_mem.mp hp
theorem joinW_ok {x y : List Wd} {kx ky : List Mk} (hx : okW x) (hy : okW y) : okW (joinW x kx y ky) := fun p hp => by
  rcases mem_joinW.mp hp with h | h
  · exact hx p h.1
  · exact hy p h.1
theorem at_markedT {x y : List Wd} {kx ky : List Mk} {v w a b : Val} {h : HM} (hv : tupL v = some (x.map eW)) (ha : tupL a = some (kx.map eM)) (hw : tupL w = some (y.map eW)) (hb : tupL b = some (ky.map eM)) (lx : x.length ≤ 1000) (ly : y.length ≤ 1000) (lkx : kx.length ≤ 1000) (lky : ky.length ≤ 1000) (ox : okW x) (oy : okW y) :
    m_marked_together [v, a, w, b] h = .ok (.tup ((srt (joinW x kx y ky)).map eW)) h := by
  have h1 := kept_len (x := x) (y := y) (k := ky)
  have h2 := kept_len (x := y) (y := x) (k := kx)
  have o1 : okW (kept x y ky) := okW_sub ox fun p hp => (List.mem_filter.mp hp).1
  have o2 : okW (kept y x kx) := okW_sub oy fun p hp => (List.mem_filter.mp hp).1
  have hni : ∀ p ∈ kept y x kx, ∀ h, vNotIn (eW p) (.lst ((kept x y ky).map eW)) h = .ok (.bl (decide (p ∉ kept x y ky))) h := fun p hp h => by
    rw [← encW]
    rw [vNotIn_lst (okW_ok o2 p hp) (okW_ok o1)]
    congr 2
    exact Bool.eq_iff_iff.mpr (by simp)
  have so := fun h => sorted_lst (h := h) (xs := joinW x kx y ky) (sortable_pair _) (by have := joinW_len (x := x) (y := y) (kx := kx) (ky := ky); omega)
  rw [encW] at so
  have ad : ∀ h, vAdd (.lst ((kept x y ky).map eW)) (.lst (((kept y x kx).filter fun p => decide (p ∉ kept x y ky)).map eW)) h = .ok (.lst ((joinW x kx y ky).map eW)) h := fun h => by
    have h3 := List.length_filter_le (fun p => decide (p ∉ kept x y ky)) (kept y x kx)
    show (if _ then _ else _) = _
    rw [if_pos (by rw [sizeLine_eq]; simp only [List.length_map]; omega), ← List.map_append]
    rfl
  unfold m_marked_together mF
  simp [at_kept hv hw hb lx lky ox oy, at_kept hw hv ha ly lkx oy ox, srcOf]
  rw [lc_filterM (fun p => decide (p ∉ kept x y ky)) eW (fun p hp => ⟨_, rfl, by simp [wipeL, hni p hp], fun _ => by simp [wipeL]⟩) (by rw [sizeLine_eq]; omega)]
  simp only [Res.bind_ok, ev_frozen, ad]
  simp [so, bTuple, seqL]
structure Fl where
  id : Mk
  first : Str
  known : List Mk
  names : List Wd
  texts : List Wd
def eFk (f : Fl) (k : Val) : Val := .tup [eM f.id, .str f.first, k, .tup (f.names.map eW), .tup (f.texts.map eW)]
def eT (f : Fl) : Val := eFk f (.tup (f.known.map eM))
/-- marked things as a file has them -/
structure Wfw (n : Nat) (ks : List Mk) (xs : List Wd) : Prop where
  nd : xs.Nodup
  sd : Sd xs
  ok : okW xs
  wi : ∀ p ∈ xs, within p.1 ks = true
  len : xs.length ≤ n
structure Wff (w : Mk) (x : Str) (n : Nat) (f : Fl) : Prop where
  id : f.id = w
  first : f.first = x
  nd : (f.known.map (·.1)).Nodup
  pos : ∀ m ∈ f.known, 0 < m.2
  sd : Sd f.known
  len : f.known.length ≤ n
  names : Wfw n f.known f.names
  texts : Wfw n f.known f.texts
def joinF (a b : Fl) : Fl := ⟨a.id, a.first, srt (joinK a.known b.known), srt (joinW a.names a.known b.names b.known), srt (joinW a.texts a.known b.texts b.known)⟩
theorem within_joinK {a b : List Mk} (nd : (a.map (·.1)).Nodup) (hb : ∀ m ∈ b, 0 < m.2) {p : Mk} : within p (srt (joinK a b)) = (within p a || within p b) := by rw [within_srt, joinK_within hb nd]
theorem Wfw.join {n m : Nat} {a b : List Mk} {x y : List Wd} (nd : (a.map (·.1)).Nodup) (hb : ∀ m ∈ b, 0 < m.2) (hx : Wfw n a x) (hy : Wfw m b y) : Wfw (n + m) (srt (joinK a b)) (srt (joinW x a y b)) := by
  refine ⟨srt_nd (joinW_nd hx.nd hy.nd), srt_srt _, okW_srt (joinW_ok hx.ok hy.ok), fun p hp => ?_, ?_⟩
  · rw [within_joinK nd hb]
    rcases mem_joinW.mp (srt_mem.mp hp) with h | h
    · rw [hx.wi p h.1]; rfl
    · rw [hy.wi p h.1]; simp
  · rw [srt_len]
    have := joinW_len (x := x) (y := y) (kx := a) (ky := b)
    have := hx.len; have := hy.len
    omega
theorem Wff.join {w : Mk} {x : Str} {n m : Nat} {a b : Fl} (ha : Wff w x n a) (hb : Wff w x m b) : Wff w x (n + m) (joinF a b) := by
  refine ⟨ha.id, ha.first, keys_srt (joinK_keys ha.nd), fun k hk => joinK_pos hb.pos ha.pos k (srt_mem.mp hk), srt_srt _, ?_, Wfw.join ha.nd hb.pos ha.names hb.names, Wfw.join ha.nd hb.pos ha.texts hb.texts⟩
  show (srt _).length ≤ _
  rw [srt_len]
  have := joinK_len (a := a.known) (b := b.known)
  have := ha.len; have := hb.len
  omega
theorem at_putT {w : Mk} {x : Str} {n m : Nat} {a b : Fl} {k j : Val} {h : HM} (ha : Wff w x n a) (hb : Wff w x m b) (hn : n ≤ 1000) (hm : m ≤ 1000) (hk : tupL k = some (a.known.map eM)) (hj : tupL j = some (b.known.map eM)) :
    m_put_together [eFk a k, eFk b j] h = .ok (eT (joinF a b)) h := by
  have l1 := ha.len; have l2 := hb.len; have l3 := ha.names.len; have l4 := hb.names.len; have l5 := ha.texts.len; have l6 := hb.texts.len
  have x0 : ∀ (f : Fl) (k : Val) h, vIx (eFk f k) (.int 0) h = .ok (eM f.id) h := fun _ _ _ => rfl
  have x1 : ∀ (f : Fl) (k : Val) h, vIx (eFk f k) (.int 1) h = .ok (.str f.first) h := fun _ _ _ => rfl
  have x2 : ∀ (f : Fl) (k : Val) h, vIx (eFk f k) (.int 2) h = .ok k h := fun _ _ _ => rfl
  have x3 : ∀ (f : Fl) (k : Val) h, vIx (eFk f k) (.int 3) h = .ok (.tup (f.names.map eW)) h := fun _ _ _ => rfl
  have x4 : ∀ (f : Fl) (k : Val) h, vIx (eFk f k) (.int 4) h = .ok (.tup (f.texts.map eW)) h := fun _ _ _ => rfl
  unfold m_put_together mF
  simp [x0, x1, x2, x3, x4, knownT_ok hk hj ha.nd (by omega) (by omega), at_markedT (v := .tup (a.names.map eW)) (w := .tup (b.names.map eW)) rfl hk rfl hj (by omega) (by omega) (by omega) (by omega) ha.names.ok hb.names.ok,
    at_markedT (v := .tup (a.texts.map eW)) (w := .tup (b.texts.map eW)) rfl hk rfl hj (by omega) (by omega) (by omega) (by omega) ha.texts.ok hb.texts.ok]
  rfl
structure IsW (S : List Fl) (g : Fl → List Wd) (xs : List Wd) : Prop where
  mem : ∀ p, p ∈ xs ↔ (∃ f ∈ S, p ∈ g f) ∧ ∀ f ∈ S, p ∈ g f ∨ within p.1 f.known = false
structure IsJ (S : List Fl) (F : Fl) : Prop where
  known : ∀ p, within p F.known = true ↔ ∃ f ∈ S, within p f.known = true
  names : IsW S (·.names) F.names
  texts : IsW S (·.texts) F.texts
theorem IsW.join {S T : List Fl} {F G : Fl} {g : Fl → List Wd} {xs ys : List Wd} (hF : ∀ p, within p F.known = true ↔ ∃ f ∈ S, within p f.known = true) (hG : ∀ p, within p G.known = true ↔ ∃ f ∈ T, within p f.known = true)
    (wS : ∀ f ∈ S, ∀ p ∈ g f, within p.1 f.known = true) (wT : ∀ f ∈ T, ∀ p ∈ g f, within p.1 f.known = true) (hx : IsW S g xs) (hy : IsW T g ys) : IsW (S ++ T) g (srt (joinW xs F.known ys G.known)) := by
  refine ⟨fun p => ?_⟩
  have hFp := hF p.1
  have hGp := hG p.1
  rw [srt_mem, mem_joinW, hx.mem, hy.mem]
  have eF : within p.1 F.known = false ↔ ∀ f ∈ S, within p.1 f.known = false := by
    rw [← Bool.not_eq_true, hFp]
    simp
  have eG : within p.1 G.known = false ↔ ∀ f ∈ T, within p.1 f.known = false := by
    rw [← Bool.not_eq_true, hGp]
    simp
  rw [eF, eG]
  constructor
  · rintro (⟨⟨⟨f, hf, pf⟩, b1⟩, h | h⟩ | ⟨⟨⟨f, hf, pf⟩, b1⟩, h | h⟩)
    · exact ⟨⟨f, List.mem_append_left _ hf, pf⟩, fun k hk => (List.mem_append.mp hk).elim (b1 k) (h.2 k)⟩
    · exact ⟨⟨f, List.mem_append_left _ hf, pf⟩, fun k hk => (List.mem_append.mp hk).elim (b1 k) fun q => .inr (h k q)⟩
    · exact ⟨⟨f, List.mem_append_right _ hf, pf⟩, fun k hk => (List.mem_append.mp hk).elim (h.2 k) (b1 k)⟩
    · exact ⟨⟨f, List.mem_append_right _ hf, pf⟩, fun k hk => (List.mem_append.mp hk).elim (fun q => .inr (h k q)) (b1 k)⟩
  · rintro ⟨⟨f, hf, pf⟩, b⟩
    have bS : ∀ k ∈ S, p ∈ g k ∨ within p.1 k.known = false := fun k hk => b k (List.mem_append_left _ hk)
    have bT : ∀ k ∈ T, p ∈ g k ∨ within p.1 k.known = false := fun k hk => b k (List.mem_append_right _ hk)
    rcases List.mem_append.mp hf with hf | hf
    · refine .inl ⟨⟨⟨f, hf, pf⟩, bS⟩, ?_⟩
      by_cases q : ∃ k ∈ T, p ∈ g k
      · exact .inl ⟨q, bT⟩
      · exact .inr fun k hk => (bT k hk).resolve_left fun z => q ⟨k, hk, z⟩
    · refine .inr ⟨⟨⟨f, hf, pf⟩, bT⟩, ?_⟩
      by_cases q : ∃ k ∈ S, p ∈ g k
      · exact .inl ⟨q, bS⟩
      · exact .inr fun k hk => (bS k hk).resolve_left fun z => q ⟨k, hk, z⟩
/-- a file, and what files it came from -/
structure Led (w : Mk) (x : Str) (n : Nat) (S : List Fl) (F : Fl) : Prop where
  wf : Wff w x n F
  all : ∀ f ∈ S, ∃ m, Wff w x m f
  isJ : IsJ S F
theorem Led.join {w : Mk} {x : Str} {n m : Nat} {S T : List Fl} {F G : Fl} (hF : Led w x n S F) (hG : Led w x m T G) : Led w x (n + m) (S ++ T) (joinF F G) := by
  refine ⟨hF.wf.join hG.wf, fun f hf => (List.mem_append.mp hf).elim (hF.all f) (hG.all f), ⟨fun p => ?_, ?_, ?_⟩⟩
  · show within p (srt (joinK F.known G.known)) = true ↔ _
    rw [within_joinK hF.wf.nd hG.wf.pos, Bool.or_eq_true, hF.isJ.known, hG.isJ.known]
    constructor
    · rintro (⟨f, h1, h2⟩ | ⟨f, h1, h2⟩)
      · exact ⟨f, List.mem_append_left _ h1, h2⟩
      · exact ⟨f, List.mem_append_right _ h1, h2⟩
    · rintro ⟨f, h1, h2⟩
      exact (List.mem_append.mp h1).elim (fun q => .inl ⟨f, q, h2⟩) fun q => .inr ⟨f, q, h2⟩
  · exact IsW.join hF.isJ.known hG.isJ.known (fun f hf p hp => by obtain ⟨k, q⟩ := hF.all f hf; exact q.names.wi p hp) (fun f hf p hp => by obtain ⟨k, q⟩ := hG.all f hf; exact q.names.wi p hp) hF.isJ.names hG.isJ.names
  · exact IsW.join hF.isJ.known hG.isJ.known (fun f hf p hp => by obtain ⟨k, q⟩ := hF.all f hf; exact q.texts.wi p hp) (fun f hf p hp => by obtain ⟨k, q⟩ := hG.all f hf; exact q.texts.wi p hp) hF.isJ.texts hG.isJ.texts
theorem IsW.same {S T : List Fl} {g : Fl → List Wd} {xs ys : List Wd} (h : ∀ f, f ∈ S ↔ f ∈ T) (hx : IsW S g xs) (hy : IsW T g ys) (p : Wd) : p ∈ xs ↔ p ∈ ys := by
  rw [hx.mem, hy.mem]
  simp only [h]
theorem Led.same {w : Mk} {x : Str} {n m : Nat} {S T : List Fl} {F G : Fl} (hF : Led w x n S F) (hG : Led w x m T G) (h : ∀ f, f ∈ S ↔ f ∈ T) : F = G := by
  have e1 : F.known = G.known := known_eq hF.wf.nd hG.wf.nd hF.wf.sd hG.wf.sd fun p => by
    rw [Bool.eq_iff_iff, hF.isJ.known, hG.isJ.known]
    simp only [h]
  have e2 : F.names = G.names := sd_eq hF.wf.names.sd hG.wf.names.sd hF.wf.names.nd hG.wf.names.nd (IsW.same h hF.isJ.names hG.isJ.names)
  have e3 : F.texts = G.texts := sd_eq hF.wf.texts.sd hG.wf.texts.sd hF.wf.texts.nd hG.wf.texts.nd (IsW.same h hF.isJ.texts hG.isJ.texts)
  have e4 : F.id = G.id := hF.wf.id.trans hG.wf.id.symm
  have e5 : F.first = G.first := hF.wf.first.trans hG.wf.first.symm
  cases F; cases G
  simp only at e1 e2 e3 e4 e5
  subst e1 e2 e3 e4 e5
  rfl
end
end MM
namespace MM
open PySem L2 PySem.W
noncomputable section
def m_law_perm : FM := mF 4 (sSeq (sAsg (eListRangeM (eVar 1)) (gNm 2))
  (sRet (eLc (iArgs rng1 (aCons (eVar 1) (aNil))) (gNm 3) (tYesM) (eBm .list mPop (eVar 2) (aCons (eCall m_law_mix (aCons (e2 vAdd (eVar 0) (e2 vMul (eC (.int 5)) (eVar 3))) (aCons (eC (.int 9967)) (aCons (e2 vSub (eVar 1) (eVar 3)) (aNil))))) (aNil))) [3] frozen)))
theorem strOk_sg {l : List Nat} (h : ∀ c ∈ l, c < 1114112) : PyData.strOk (sg l) = true := by
  show (sg l).cps.all (· < 0x110000) = true
  simp only [sg, List.all_toArray, List.all_eq_true, decide_eq_true_eq]
  exact h
theorem lname_ok (c : Int) : PyData.strOk (sg (lname c)) = true := strOk_sg fun x hx => by
  have h := lname_mem hx
  have : ∀ y ∈ lets, y < 1114112 := by decide
  exact this x h
theorem ltext_mem {c : Int} {x : Nat} (h : x ∈ ltext c) : x ∈ signsT := by
  unfold ltext at h
  split at h
  · split at h
    · cases h
    · simp at h; subst h; decide
    · simp at h; rcases h with rfl | rfl | rfl <;> decide
  · exact drawn_mem (by decide) h
theorem ltext_ok (c : Int) : PyData.strOk (sg (ltext c)) = true := strOk_sg fun x hx => by
  have h := ltext_mem hx
  have : ∀ y ∈ signsT, y < 1114112 := by decide
  exact this x h
/-- a comprehension that changes things, with an invariant -/
theorem lc_inv {xs : List Val} {g : GM} {te : EM} {l : Loc} {h : HM} (I : Nat → List Val → HM → Prop) (h0 : I 0 [] h)
    (hs : ∀ i x acc h, xs[i]? = some x → I i acc h → ∃ l1 y h2, g x l = some l1 ∧ te l1 h = .ok y h2 ∧ I (i + 1) (acc ++ [y]) h2) (hl : xs.length ≤ sizeLine) :
    ∃ ys h', lcL (srcItems xs) g tYesM te l (srcItems xs).len 0 h [] = .ok ys h' ∧ I xs.length ys h' := by
  have gen : ∀ (n i : Nat) (acc : List Val) (h : HM), i + n = xs.length → acc.length = i → I i acc h → ∃ ys h', lcL (srcItems xs) g tYesM te l n i h acc = .ok ys h' ∧ I xs.length ys h' := by
    intro n
    induction n with
    | zero =>
      intro i acc h hi ha hI
      have : i = xs.length := by omega
      subst this
      exact ⟨acc, h, by simp [lcL, srcItems], hI⟩
    | succ n ih =>
      intro i acc h hi ha hI
      have hlt : i < xs.length := by omega
      have hg : (srcItems xs).get i h = some xs[i] := by simp [srcItems, hlt]
      obtain ⟨l1, y, h2, e1, e2, hI2⟩ := hs i xs[i] acc h (by simp [hlt]) hI
      simp only [lcL, hg, e1, tYesM, e2]
      rw [if_pos (by omega)]
      exact ih (i + 1) _ h2 (by omega) (by simp [ha]) hI2
  exact gen xs.length 0 [] h (by omega) rfl h0
theorem erase_perm {α : Type} : ∀ {l : List α} {i : Nat} (h : i < l.length), (l[i] :: l.eraseIdx i).Perm l
  | a :: l, 0, _ => by simp
  | a :: l, i + 1, h => by
    have h2 : i < l.length := by simpa using h
    have ih := erase_perm (l := l) (i := i) h2
    simp only [List.getElem_cons_succ, List.eraseIdx_cons_succ]
    exact (List.Perm.swap a l[i] _).trans (ih.cons a)
theorem map_erase {α β : Type} {f : α → β} {l : List α} {i : Nat} : (l.map f).eraseIdx i = (l.eraseIdx i).map f := by
  simp [List.eraseIdx_eq_take_drop_succ, List.map_take, List.map_drop]
def permF (c n : Int) : Nat → List Int × List Int
  | 0 => ([], (List.range n.toNat).map fun (i : Nat) => (0 + (i : Nat) : Int))
  | i + 1 => ((permF c n i).1 ++ [((permF c n i).2[(mix (c + 5 * (i : Nat)) 9967 (n - (i : Nat))).toNat]?).getD 0], (permF c n i).2.eraseIdx (mix (c + 5 * (i : Nat)) 9967 (n - (i : Nat))).toNat)
theorem permF_s1 {c n : Int} {i : Nat} : (permF c n (i + 1)).1 = (permF c n i).1 ++ [((permF c n i).2[(mix (c + 5 * (i : Nat)) 9967 (n - (i : Nat))).toNat]?).getD 0] := rfl
theorem permF_s2 {c n : Int} {i : Nat} : (permF c n (i + 1)).2 = (permF c n i).2.eraseIdx (mix (c + 5 * (i : Nat)) 9967 (n - (i : Nat))).toNat := rfl
theorem permF_ok {c n : Int} : ∀ {i : Nat}, i ≤ n.toNat → (permF c n i).2.length = n.toNat - i ∧ ((permF c n i).1 ++ (permF c n i).2).Perm ((List.range n.toNat).map fun (i : Nat) => (0 + (i : Nat) : Int))
  | 0, _ => ⟨by simp [permF], by simp [permF]⟩
  | i + 1, hi => by
    obtain ⟨h1, h2⟩ := permF_ok (c := c) (n := n) (i := i) (by omega)
    have m0 := mix_nn (c := c + 5 * (i : Nat)) (p := 9967) (m := n - (i : Nat)) (by omega)
    have m1 := mix_lt (c := c + 5 * (i : Nat)) (p := 9967) (m := n - (i : Nat)) (by omega)
    unfold permF
    generalize mix (c + 5 * (i : Nat)) 9967 (n - (i : Nat)) = j at m0 m1
    generalize permF c n i = pr at h1 h2
    have hj : j.toNat < pr.2.length := by omega
    refine ⟨?_, ?_⟩
    · show (pr.2.eraseIdx j.toNat).length = _
      rw [List.length_eraseIdx]; split <;> omega
    · show (pr.1 ++ [(pr.2[j.toNat]?).getD 0] ++ pr.2.eraseIdx j.toNat).Perm _
      have e : (pr.2[j.toNat]?).getD 0 = pr.2[j.toNat] := by simp [hj]
      rw [e, List.append_assoc, List.singleton_append]
      exact ((erase_perm hj).append_left pr.1).trans h2
def lperm (c n : Int) : List Int := (permF c n n.toNat).1
theorem lperm_perm {c n : Int} : (lperm c n).Perm ((List.range n.toNat).map fun (i : Nat) => (0 + (i : Nat) : Int)) := by
  obtain ⟨h1, h2⟩ := permF_ok (c := c) (n := n) (i := n.toNat) (Nat.le_refl _)
  have : (permF c n n.toNat).2 = [] := List.length_eq_zero_iff.mp (by omega)
  rw [this, List.append_nil] at h2
  exact h2
theorem pop_last {h : HM} {ys : List Val} {j : Int} {y : Val} (h0 : 0 ≤ j) (h1 : j < 1000000) (e : ys[j.toNat]? = some y) : mPop (.ref (List.length h)) [.int j] (h ++ [.lst ys]) = .ok y (h ++ [.lst (ys.eraseIdx j.toNat)]) := by
  have hlt : j.toNat < ys.length := (List.getElem?_eq_some_iff.mp e).1
  have es : seqIndex? j ys.length = some j.toNat := by
    unfold seqIndex?
    have : ¬ j < 0 := by omega
    simp only [this, if_false]
    rw [if_pos (by simp; omega)]
  simp only [mPop, last_get, es, e, last_set]
  rw [if_pos (by omega)]
end
end MM
namespace MM
open PySem L2 PySem.W
noncomputable section
theorem perm_step {c n : Int} {i : Nat} {h : HM} (hn : n ≤ 1000) (hi' : i < n.toNat) (h5 : ∀ (k : Int) (h : HM), vMul (.int 5) (.int k) h = .ok (.int (5 * k)) h) :
    (eBm .list mPop (eVar 2) (aCons (eCall m_law_mix (aCons (e2 vAdd (eVar 0) (e2 vMul (eC (.int 5)) (eVar 3))) (aCons (eC (.int 9967)) (aCons (e2 vSub (eVar 1) (eVar 3)) (aNil))))) (aNil))) [some (.int c), some (.int n), some (.ref (List.length h)), some (.int (i : Nat))] (h ++ [.lst ((permF c n i).2.map .int)])
      = .ok (.int (((permF c n i).2[(mix (c + 5 * (i : Nat)) 9967 (n - (i : Nat))).toNat]?).getD 0)) (h ++ [.lst ((permF c n (i + 1)).2.map .int)]) := by
  obtain ⟨q1, q2⟩ := permF_ok (c := c) (n := n) (i := i) (by omega)
  have m0 := mix_nn (c := c + 5 * (i : Nat)) (p := 9967) (m := n - (i : Nat)) (by omega)
  have m1 := mix_lt (c := c + 5 * (i : Nat)) (p := 9967) (m := n - (i : Nat)) (by omega)
  have mm : ∀ h, m_law_mix [.int (c + 5 * (i : Nat)), .int 9967, .int (n - (i : Nat))] h = .ok (.int (mix (c + 5 * (i : Nat)) 9967 (n - (i : Nat)))) h := fun h => at_mix (by decide) (by omega)
  simp only [permF_s2]
  generalize mix (c + 5 * (i : Nat)) 9967 (n - (i : Nat)) = j at m0 m1 mm
  generalize permF c n i = pr at q1 q2
  have hj : j.toNat < pr.2.length := by omega
  have hp := pop_last (h := h) (ys := pr.2.map Val.int) (j := j) (y := .int pr.2[j.toNat]) m0 (by omega) (by simp [hj])
  rw [map_erase] at hp
  simp [h5, mm, hp, hj]
theorem ev_lrM {m : EM} {j : Int} {l : Loc} {h : HM} (e : m l h = .ok (.int j) h) (hj : -(2 ^ 61) ≤ j ∧ j ≤ 16777216) : eListRangeM m l h = .ok (.ref h.length) (h ++ [.lst (intsV 0 j.toNat)]) := by
  simp only [eListRangeM, e, Res.bind_ok]
  rw [if_pos hj]
theorem at_perm {c n : Int} {h : HM} (h0 : 0 ≤ n) (hn : n ≤ 1000) : m_law_perm [.int c, .int n] h = .ok (.lst ((lperm c n).map .int)) (h ++ [.lst ((permF c n n.toNat).2.map Val.int)]) := by
  have h5 : ∀ (k : Int) (h : HM), vMul (.int 5) (.int k) h = .ok (.int (5 * k)) h := fun k h => ev_mulI (.inl (by decide))
  obtain ⟨ys, h', e, e1, e2⟩ := lc_inv (xs := intsV 0 n.toNat) (g := gNm 3) (te := (eBm .list mPop (eVar 2) (aCons (eCall m_law_mix (aCons (e2 vAdd (eVar 0) (e2 vMul (eC (.int 5)) (eVar 3))) (aCons (eC (.int 9967)) (aCons (e2 vSub (eVar 1) (eVar 3)) (aNil))))) (aNil)))) (l := [some (.int c), some (.int n), some (.ref (List.length h)), none]) (h := h ++ [.lst (intsV 0 n.toNat)])
    (fun i acc h' => acc = (permF c n i).1.map .int ∧ h' = h ++ [.lst ((permF c n i).2.map .int)]) ⟨rfl, by simp [intsV, permF, Function.comp_def]⟩ (by
    rintro i x acc h' hx ⟨rfl, rfl⟩
    obtain ⟨hi, rfl⟩ := intsV_at hx
    rw [Int.zero_add]
    refine ⟨_, _, _, rfl, perm_step hn hi h5, ?_, rfl⟩
    rw [permF_s1, List.map_append]
    rfl) (by rw [sizeLine_eq]; simp [intsV]; omega)
  have ils : (intsV 0 n.toNat).length = n.toNat := by simp [intsV]
  rw [ils] at e1 e2
  have er : ∀ h, rng1 [.int n] h = .ok (srcItems (intsV 0 n.toNat)) h := fun h => ev_rng1 (by omega)
  have lr : ∀ h, eListRangeM (eVar 1) [some (.int c), some (.int n), none, none] h = .ok (.ref (List.length h)) (h ++ [.lst (intsV 0 n.toNat)]) := fun h => ev_lrM rfl (by omega)
  subst e1 e2
  unfold m_law_perm mF
  simp only [ev_sSeq, ev_sAsg, ev_sRet, List.map_cons, List.map_nil, List.length_cons, List.length_nil, List.replicate, List.cons_append, List.nil_append, Nat.zero_add, Nat.reduceAdd, Nat.reduceSub, lr, Res.thn_ok, ev_gNmS, ev_gNm0, Option.map_some, ev_eLc, ev_iArgs, ev_aCons, ev_aNil, ev_VarS, ev_Var0, Res.bind_ok, er, wipeL]
  simp only [List.foldl_cons, List.foldl_nil, List.set_cons_succ, List.set_cons_zero]
  simp only [e, Res.bind_ok, ev_frozen, lperm, Res.thn_ok]
def s_law_perm : FM := fun xs h => match xs with
  | [.int c, .int n] => if 0 ≤ n ∧ n ≤ 1000 then .ok (.lst ((lperm c n).map .int)) h else .bad
  | _ => .bad
theorem frz_ints {h : HM} {n : Nat} (ks : List Int) : FrzS h n (ks.map .int) (ks.map .int) := by
  induction ks with
  | nil => exact .nil
  | cons k ks ih => exact .cons (.int _) ih
theorem le_law_perm (xs : List Val) (h : HM) (_ : xs.length = 2) (w : Wf h) (_ : CloS h.length xs) : Le h (s_law_perm xs h) (m_law_perm xs h) := by
  unfold s_law_perm
  split
  · rename_i c n _ _
    split
    · rename_i hh
      rw [at_perm hh.1 hh.2]
      exact .pure w (.lst (frz_ints _))
    · exact .bad
  · exact .bad
theorem perm_ok {c n : Int} {h : HM} (hh : 0 ≤ n ∧ n ≤ 1000) : s_law_perm [.int c, .int n] h = .ok (.lst ((lperm c n).map .int)) h := if_pos hh
end
end MM
namespace MM
open PySem L2 PySem.W
noncomputable section
theorem same_mks (ks : List Mk) : sameBs (ks.map eM) (ks.map eM) = true := by
  induction ks with
  | nil => simp [sameBs]
  | cons k ks ih => simp [sameBs, ih, eM, sameB, tupL]
theorem same_wds (ks : List Wd) : sameBs (ks.map eW) (ks.map eW) = true := by
  induction ks with
  | nil => simp [sameBs]
  | cons k ks ih => simp [sameBs, ih, eW, eM, sameB, tupL]
theorem pl_mks {d : Nat} (ks : List Mk) : (ks.map eM).all (pl (d + 1)) = true := by
  induction ks with
  | nil => rfl
  | cons k ks ih => rw [List.map_cons, List.all_cons, ih]; simp [eM, pl]
theorem pl_wds {d : Nat} {ks : List Wd} (ho : okW ks) : (ks.map eW).all (pl (d + 2)) = true := by
  induction ks with
  | nil => rfl
  | cons k ks ih => rw [List.map_cons, List.all_cons, ih fun p hp => ho p (List.mem_cons_of_mem _ hp)]; simp [eM, eW, pl, ho k List.mem_cons_self]
theorem pl_tupL {d : Nat} {k : Val} {xs : List Val} (hk : tupL k = some xs) (hl : xs.length ≤ 1000000) (h : xs.all (pl d) = true) : pl (d + 1) k = true := by
  cases k <;> first | (cases hk; done) | (cases hk; simp only [pl, h, hl, decide_true, Bool.and_self])
theorem pl_file {w : Mk} {x : Str} {n d : Nat} {F : Fl} {k : Val} (hF : Wff w x n F) (hn : n ≤ 1000) (hx : PyData.strOk x = true) (hk : tupL k = some (F.known.map eM)) : pl (d + 4) (eFk F k) = true := by
  have l1 := hF.len; have l2 := hF.names.len; have l3 := hF.texts.len
  have p1 : pl (d + 3) k = true := pl_tupL hk (by simp; omega) (pl_mks _)
  have p2 : pl (d + 3) (.tup (F.names.map eW)) = true := pl_tupL rfl (by simp; omega) (pl_wds hF.names.ok)
  have p3 : pl (d + 3) (.tup (F.texts.map eW)) = true := pl_tupL rfl (by simp; omega) (pl_wds hF.texts.ok)
  have p4 : pl (d + 3) (eM F.id) = true := by simp [eM, pl]
  have p5 : pl (d + 3) (.str F.first) = true := by rw [hF.first]; exact hx
  refine pl_tupL (xs := [eM F.id, .str F.first, k, .tup (F.names.map eW), .tup (F.texts.map eW)]) rfl (by simp) ?_
  simp only [List.all_cons, List.all_nil, p1, p2, p3, p4, p5, Bool.and_self]
theorem sameB_tup {f e : Val} {xs ys : List Val} (hf : tupL f = some xs) (he : tupL e = some ys) : sameB f e = sameBs xs ys := by
  cases e <;> first | (cases he; done) | (cases he; simp only [sameB, hf])
theorem sameB_file {F : Fl} {k j : Val} (hk : tupL k = some (F.known.map eM)) (hj : tupL j = some (F.known.map eM)) : sameB (eFk F k) (eFk F j) = true := by
  rw [sameB_tup (f := eFk F k) (e := eFk F j) rfl rfl]
  have e1 : sameB k j = true := by rw [sameB_tup hk hj]; exact same_mks _
  have e2 : sameB (.tup (F.names.map eW)) (.tup (F.names.map eW)) = true := by rw [sameB_tup rfl rfl]; exact same_wds _
  have e3 : sameB (.tup (F.texts.map eW)) (.tup (F.texts.map eW)) = true := by rw [sameB_tup rfl rfl]; exact same_wds _
  have e4 : sameB (eM F.id) (eM F.id) = true := by simp [eM, sameB, sameBs, tupL]
  have e5 : sameB (.str F.first) (.str F.first) = true := by simp [sameB]
  simp only [sameBs, e1, e2, e3, e4, e5, Bool.and_self]
end
end MM
namespace MM
open PySem L2
end MM
namespace MM
open PySem L2 PySem.Spec PyProof.Rows
/-- each thing once, in the order of its first place -/
def addU {κ : Type} [DecidableEq κ] (l : List κ) (k : κ) : List κ := if k ∈ l then l else l ++ [k]
def uniq {κ : Type} [DecidableEq κ] (xs : List κ) : List κ := xs.foldl addU []
theorem mem_addU {κ : Type} [DecidableEq κ] {l : List κ} {k j : κ} : j ∈ addU l k ↔ j ∈ l ∨ j = k := by
  unfold addU
  split
  · exact ⟨.inl, fun h => h.elim id fun e => by subst e; assumption⟩
  · simp
section
variable {X : Cx} {G : Glob} {W : WX} {a : Expr} {me : EM} {p p2 q pos : Pos}
/-- len(set(xs)), xs a list of texts -/
def vLenSet (v : Val) (h : HM) : Res Val := match v with
  | .lst xs => (match strsOf xs with
    | some ys => if ys.length ≤ 1000 then .ok (.int (uniq ys).length) h else .bad
    | none => .bad)
  | _ => .bad
def eLenSet (m : EM) : EM := fun l h => (m l h).bind vLenSet
end
end MM
namespace MM
open PySem L2 PySem.W
end MM
namespace MM
open PySem L2 PySem.W
noncomputable section
def m_is_gone : FM := mF 1 (sRet (e2 vEq (eBi bLen (aCons (e2 vIx (eVar 0) (eC (.int 4))) (aNil))) (eC (.int 0))))
/-- a comprehension over what stands, whatever it is walked by -/
theorem lc_src {α : Type} {src : Src} {xs : List α} {e : α → Val} {g : GM} {tt : TM} {te : EM} {l : Loc} {h : HM} (f : α → Option Val) (hlen : src.len = xs.length) (hget : ∀ i x, xs[i]? = some x → src.get i h = some (e x)) (hok : src.ok h = true)
    (hf : ∀ x ∈ xs, ∃ l1, g (e x) l = some l1 ∧ ((f x = none ∧ tt l1 h = .ok false h) ∨ ∃ y, f x = some y ∧ tt l1 h = .ok true h ∧ te l1 h = .ok y h)) (hl : xs.length ≤ 1000000) :
    lcL src g tt te l src.len 0 h [] = .ok (xs.filterMap f) h := by
  have gen : ∀ (n i : Nat) (acc : List Val), i + n = xs.length → acc.length ≤ i → lcL src g tt te l n i h acc = .ok (acc ++ (xs.drop i).filterMap f) h := by
    intro n
    induction n with
    | zero =>
      intro i acc hi ha
      have : xs.drop i = [] := List.drop_eq_nil_of_le (by omega)
      simp [lcL, this, hok]
    | succ n ih =>
      intro i acc hi ha
      have hlt : i < xs.length := by omega
      have hg : src.get i h = some (e xs[i]) := hget i _ (by simp)
      have hd : xs.drop i = xs[i] :: xs.drop (i + 1) := List.drop_eq_getElem_cons hlt
      obtain ⟨l1, e1, hh⟩ := hf xs[i] (List.getElem_mem hlt)
      simp only [lcL, hg, e1]
      rcases hh with ⟨e2, e3⟩ | ⟨y, e2, e3, e4⟩
      · rw [e3]
        simp only
        rw [ih (i + 1) acc (by omega) (by omega), hd, List.filterMap_cons, e2]
      · rw [e3]
        simp only
        rw [e4]
        simp only
        rw [if_pos (by rw [sizeLine_eq]; omega), ih (i + 1) (acc ++ [y]) (by omega) (by simp; omega), hd, List.filterMap_cons, e2]
        simp
  have := gen xs.length 0 [] (by omega) (Nat.le_refl _)
  rw [List.nil_append, List.drop_zero] at this
  rw [hlen]
  exact this
theorem srcOf_ref {h : HM} {n : Nat} {xs : List Val} (hn : h[n]? = some (.lst xs)) : srcOf (.ref n) h = .ok (srcRef n xs.length) h := by simp only [srcOf, hn]
/-- over a list that stands at n -/
theorem lc_ref {α : Type} {n : Nat} {xs : List α} {e : α → Val} {g : GM} {te : EM} {l : Loc} {h : HM} (f : α → Val) (hn : h[n]? = some (.lst (xs.map e))) (hf : ∀ x ∈ xs, ∃ l1, g (e x) l = some l1 ∧ te l1 h = .ok (f x) h) (hl : xs.length ≤ 1000000) :
    lcL (srcRef n (xs.map e).length) g tYesM te l (srcRef n (xs.map e).length).len 0 h [] = .ok (xs.map f) h := by
  have hi : lenIs n (xs.map e).length h = true := by simp [lenIs, hn]
  rw [lc_src (xs := xs) (e := e) (fun x => some (f x)) (by simp [srcRef]) (fun i x hx => by simp only [srcRef, hi, if_true, hn]; rw [List.getElem?_map, hx]; rfl) hi (fun x hx => ?_) hl]
  · simp
  · obtain ⟨l1, a, b⟩ := hf x hx
    exact ⟨l1, a, .inr ⟨_, rfl, rfl, b⟩⟩
@[simp] theorem ev_neg {m : EM} {l : Loc} {h : HM} : eNegM m l h = (m l h).bind fun v h1 => match v with | .int i => .ok (.int (-i)) h1 | _ => .bad := (rfl)
@[simp] theorem ev_lenSet {m : EM} {l : Loc} {h : HM} : eLenSet m l h = (m l h).bind vLenSet := rfl
@[simp] theorem ev_eDfl {m : PyData → List PyData → PyData} {a d : EM} {l : Loc} {h : HM} : eDfl m a d l h = (a l h).bind fun x h1 => (d l h1).bind fun y h2 => vDfl m x y h2 := rfl
/-- the least of some words, d if there is none -/
def firstW (d : Str) (ws : List Str) : Str := match ws with
  | [] => d
  | y :: ys => minOf y ys
section
variable {α : Type} [DecidableEq α] [EncO α]
theorem minOf_mem : ∀ {ys : List α} {y : α}, minOf y ys ∈ y :: ys := by
  intro ys
  induction ys with
  | nil => intro y; exact List.mem_cons_self
  | cons z ys ih =>
    intro y
    show minOf (if DatumOrd.lt z y = true then z else y) ys ∈ _
    split
    · exact List.mem_cons_of_mem _ ih
    · rcases List.mem_cons.mp (ih (y := y)) with h | h
      · rw [h]; exact List.mem_cons_self
      · exact List.mem_cons_of_mem _ (List.mem_cons_of_mem _ h)
end
/-- words of two sorts -/
def two (ws : List Wd) : Bool := decide (1 < (uniq (ws.map (·.2))).length)
def nameF (f : Fl) : Str := firstW f.first (f.names.map (·.2))
theorem at_isGone {f : Fl} {k : Val} {h : HM} : m_is_gone [eFk f k] h = .ok (.bl (decide (f.texts = []))) h := by
  have x4 : ∀ h, vIx (eFk f k) (.int 4) h = .ok (.tup (f.texts.map eW)) h := fun _ => rfl
  unfold m_is_gone mF
  simp [x4]
end
end MM
namespace MM
open PySem L2 PySem.W
end MM
namespace MM
open PySem L2 PySem.W
noncomputable section
def rightB (j : Nat) (v : Val) : Bool := if j = 0 then isName v else isText v
end
end MM
namespace MM
open PySem L2 PySem.W
noncomputable section
def Rg (m : Mk) : Prop := 0 ≤ m.1 ∧ m.1 ≤ 5 ∧ 1 ≤ m.2
/-- marked words as a file has them: kind j -/
structure Gw (j : Nat) (ks : List Mk) (xs : List Wd) : Prop where
  nd : (xs.map (·.1)).Nodup
  sd : Sd xs
  wi : ∀ p ∈ xs, within p.1 ks = true
  rg : ∀ p ∈ xs, Rg p.1
  ok : okW xs
  ri : ∀ p ∈ xs, rightB j (.str p.2) = true
structure Gk (ks : List Mk) : Prop where
  nd : (ks.map (·.1)).Nodup
  sd : Sd ks
  rg : ∀ m ∈ ks, Rg m
structure Gd (n : Nat) (f : Fl) : Prop where
  id : Rg f.id
  first : isName (.str f.first) = true
  fok : PyData.strOk f.first = true
  known : Gk f.known
  own : within f.id f.known = true
  names : Gw 0 f.known f.names
  texts : Gw 1 f.known f.texts
  ln : f.names.length ≤ n
  lt : f.texts.length ≤ n
theorem nd_fst {xs : List Wd} (h : (xs.map (·.1)).Nodup) : xs.Nodup := (List.pairwise_map.mp h).imp fun g e => g (congrArg Prod.fst e)
theorem fst_inj {xs : List Wd} (h : (xs.map (·.1)).Nodup) {p q : Wd} (hp : p ∈ xs) (hq : q ∈ xs) (e : p.1 = q.1) : p = q := by
  induction xs with
  | nil => cases hp
  | cons x xs ih =>
    rw [List.map_cons, List.nodup_cons] at h
    rcases List.mem_cons.mp hp with e1 | hp1 <;> rcases List.mem_cons.mp hq with e2 | hq1
    · rw [e1, e2]
    · subst e1
      exact absurd (List.mem_map.mpr ⟨q, hq1, e.symm⟩) h.1
    · subst e2
      exact absurd (List.mem_map.mpr ⟨p, hp1, e⟩) h.1
    · exact ih h.2 hp1 hq1
theorem nd_of_inj {xs : List Wd} (h : xs.Nodup) (hi : ∀ p ∈ xs, ∀ q ∈ xs, p.1 = q.1 → p = q) : (xs.map (·.1)).Nodup := by
  rw [List.Nodup, List.pairwise_map]
  exact List.Pairwise.imp_of_mem (fun {a b} ha hb hne e => hne (hi a ha b hb e)) h
/-- six houses at most -/
theorem range_len : ∀ (n : Nat) (xs : List Int), xs.Nodup → (∀ x ∈ xs, 0 ≤ x ∧ x < (n : Int)) → xs.length ≤ n := by
  intro n xs hn hx
  have : (xs.map Int.toNat).Nodup := by
    rw [List.Nodup, List.pairwise_map]
    exact List.Pairwise.imp_of_mem (fun {a b} ha hb hne e => hne (by have := hx a ha; have := hx b hb; omega)) hn
  have h2 := List.Nodup.length_le_of_subset (l₂ := List.range n) this (fun y hy => by
    obtain ⟨x, h1, rfl⟩ := List.mem_map.mp hy
    have := hx x h1
    rw [List.mem_range]; omega)
  simpa using h2
theorem Gk.len {ks : List Mk} (h : Gk ks) : ks.length ≤ 6 := by
  have := range_len 6 (ks.map (·.1)) h.nd fun x hx => by
    obtain ⟨m, hm, rfl⟩ := List.mem_map.mp hx
    have := h.rg m hm
    unfold Rg at this
    omega
  simpa using this
theorem Gk.pos {ks : List Mk} (h : Gk ks) : ∀ m ∈ ks, 0 < m.2 := fun m hm => by have := h.rg m hm; unfold Rg at this; omega
theorem Gw.wfw {j n : Nat} {ks : List Mk} {xs : List Wd} (h : Gw j ks xs) (hl : xs.length ≤ n) : Wfw n ks xs := ⟨nd_fst h.nd, h.sd, h.ok, h.wi, hl⟩
theorem Gd.wff {n : Nat} {f : Fl} (h : Gd n f) (hn : 6 ≤ n) : Wff f.id f.first n f := ⟨rfl, rfl, h.known.nd, h.known.pos, h.known.sd, Nat.le_trans h.known.len hn, h.names.wfw h.ln, h.texts.wfw h.lt⟩
theorem Gk.join {a b : List Mk} (ha : Gk a) (hb : Gk b) : Gk (srt (joinK a b)) := by
  refine ⟨keys_srt (joinK_keys ha.nd), srt_srt _, fun m hm => ?_⟩
  have hp := joinK_pos hb.pos ha.pos m (srt_mem.mp hm)
  have hw : within m (srt (joinK a b)) = true := ((mem_within (keys_srt (joinK_keys ha.nd))).mp hm).1
  rw [within_joinK ha.nd hb.pos, Bool.or_eq_true] at hw
  have key : ∀ ks : List Mk, Gk ks → within m ks = true → 0 ≤ m.1 ∧ m.1 ≤ 5 := fun ks hk hw => by
    unfold within at hw
    rw [List.any_eq_true] at hw
    obtain ⟨k, h1, h2⟩ := hw
    simp at h2
    have := hk.rg k h1
    unfold Rg at this
    omega
  unfold Rg
  rcases hw with hw | hw
  · have := key a ha hw; omega
  · have := key b hb hw; omega
theorem Gw.join {j : Nat} {a b : List Mk} {x y : List Wd} (ka : Gk a) (kb : Gk b) (hx : Gw j a x) (hy : Gw j b y) : Gw j (srt (joinK a b)) (srt (joinW x a y b)) := by
  have nd := joinW_nd (kx := a) (ky := b) (nd_fst hx.nd) (nd_fst hy.nd)
  have mem : ∀ p ∈ joinW x a y b, p ∈ x ∨ p ∈ y := fun p hp => by
    rcases mem_joinW.mp hp with h | h
    · exact .inl h.1
    · exact .inr h.1
  have inj : ∀ p ∈ joinW x a y b, ∀ q ∈ joinW x a y b, p.1 = q.1 → p = q := fun p hp q hq e => by
    have hp := mem_joinW.mp hp
    have hq := mem_joinW.mp hq
    by_cases px : p ∈ x
    · by_cases qx : q ∈ x
      · exact fst_inj hx.nd px qx e
      · have qy : q ∈ y := by rcases hq with h | h; exact absurd h.1 qx; exact h.1
        have : within q.1 a = false := by
          rcases hq with h | h
          · exact absurd h.1 qx
          · rcases h.2 with h | h
            · exact absurd h qx
            · exact h
        rw [← e, hx.wi p px] at this
        cases this
    · have py : p ∈ y := by rcases hp with h | h; exact absurd h.1 px; exact h.1
      by_cases qy : q ∈ y
      · exact fst_inj hy.nd py qy e
      · have qx : q ∈ x := by rcases hq with h | h; exact h.1; exact absurd h.1 qy
        have : within p.1 a = false := by
          rcases hp with h | h
          · exact absurd h.1 px
          · rcases h.2 with h | h
            · exact absurd h px
            · exact h
        rw [e, hx.wi q qx] at this
        cases this
  refine ⟨?_, srt_srt _, fun p hp => ?_, fun p hp => ?_, okW_srt (joinW_ok hx.ok hy.ok), fun p hp => ?_⟩
  · exact ((srt_perm _).map _).nodup_iff.mpr (nd_of_inj nd inj)
  · rw [within_joinK ka.nd kb.pos]
    rcases mem p (srt_mem.mp hp) with h | h
    · rw [hx.wi p h]; rfl
    · rw [hy.wi p h]; simp
  · rcases mem p (srt_mem.mp hp) with h | h
    · exact hx.rg p h
    · exact hy.rg p h
  · rcases mem p (srt_mem.mp hp) with h | h
    · exact hx.ri p h
    · exact hy.ri p h
theorem Gd.join {n m : Nat} {a b : Fl} (ha : Gd n a) (hb : Gd m b) : Gd (n + m) (joinF a b) := by
  have own : within a.id (srt (joinK a.known b.known)) = true := by rw [within_joinK ha.known.nd hb.known.pos, ha.own]; rfl
  refine ⟨ha.id, ha.first, ha.fok, ha.known.join hb.known, own, Gw.join ha.known hb.known ha.names hb.names, Gw.join ha.known hb.known ha.texts hb.texts, ?_, ?_⟩
  · show (srt _).length ≤ _
    rw [srt_len]
    have := joinW_len (x := a.names) (y := b.names) (kx := a.known) (ky := b.known)
    have := ha.ln; have := hb.ln; omega
  · show (srt _).length ≤ _
    rw [srt_len]
    have := joinW_len (x := a.texts) (y := b.texts) (kx := a.known) (ky := b.known)
    have := ha.lt; have := hb.lt; omega
theorem sd_pw {α : Type} [DecidableEq α] [EncO α] {xs : List α} (h : Sd xs) (nd : xs.Nodup) : List.Pairwise (fun a b => DatumOrd.lt a b = true) xs := by
  have p := srt_pw xs
  rw [h] at p
  refine (p.and nd).imp fun {a b} ⟨h1, h2⟩ => ?_
  cases e : DatumOrd.lt a b with
  | true => rfl
  | false => exact absurd (EncO.tri a b e h1) h2
theorem houses_pw {ks : List Mk} (h : Sd ks) (nd : (ks.map (·.1)).Nodup) : List.Pairwise (fun a b => DatumOrd.lt a b = true) (ks.map (·.1)) := by
  have p := sd_pw h (nd_of_keys nd)
  rw [List.pairwise_map]
  have nd' := List.pairwise_map.mp nd
  refine (p.and nd').imp fun {a b} ⟨h1, h2⟩ => ?_
  rw [lt_pair, if_neg h2] at h1
  exact h1
instance : DecidableEq Fl := fun a b => decidable_of_decidable_of_iff (p := a.id = b.id ∧ a.first = b.first ∧ a.known = b.known ∧ a.names = b.names ∧ a.texts = b.texts) (by cases a; cases b; simp)
def datFl (f : Fl) : PyData := .tuple [Datum.toD f.id, .str f.first, .tuple (f.known.map Datum.toD), .tuple (f.names.map Datum.toD), .tuple (f.texts.map Datum.toD)]
theorem datF_tupL {v : Val} {xs : List Val} (e : tupL v = some xs) : datF v = (datFs xs).map .tuple := by
  cases v <;> first | (cases e; done) | (cases e; rfl)
theorem datF_file {f : Fl} {k : Val} (hk : tupL k = some (f.known.map eM)) : datF (eFk f k) = some (datFl f) := by
  have e1 : datF k = some (.tuple (f.known.map Datum.toD)) := by rw [datF_tupL hk, show f.known.map eM = f.known.map Enc.enc from rfl, datFs_map]; rfl
  have e2 : datF (.tup (f.names.map eW)) = some (.tuple (f.names.map Datum.toD)) := by rw [datF_tupL (xs := f.names.map eW) rfl, show f.names.map eW = f.names.map Enc.enc from rfl, datFs_map]; rfl
  have e3 : datF (.tup (f.texts.map eW)) = some (.tuple (f.texts.map Datum.toD)) := by rw [datF_tupL (xs := f.texts.map eW) rfl, show f.texts.map eW = f.texts.map Enc.enc from rfl, datFs_map]; rfl
  have e4 : datF (eM f.id) = some (Datum.toD f.id) := Enc.dat f.id
  have e5 : datF (.str f.first) = some (.str f.first) := rfl
  rw [datF_tupL (v := eFk f k) (xs := [eM f.id, .str f.first, k, .tup (f.names.map eW), .tup (f.texts.map eW)]) rfl]
  simp only [datFs, e1, e2, e3, e4, e5, datFl, Option.map_some]
theorem eqv_file (f g : Fl) : PyData.eqv (datFl f) (datFl g) = decide (f = g) := by
  have a := Datum.eqv f.id g.id
  have b := Datum.eqv (Tup.mk f.known) (Tup.mk g.known)
  have c := Datum.eqv (Tup.mk f.names) (Tup.mk g.names)
  have d := Datum.eqv (Tup.mk f.texts) (Tup.mk g.texts)
  have e := Datum.eqv f.first g.first
  have b' : PyData.eqv (.tuple (f.known.map Datum.toD)) (.tuple (g.known.map Datum.toD)) = decide (f.known = g.known) := b.trans (by by_cases h : f.known = g.known <;> simp [h])
  have c' : PyData.eqv (.tuple (f.names.map Datum.toD)) (.tuple (g.names.map Datum.toD)) = decide (f.names = g.names) := c.trans (by by_cases h : f.names = g.names <;> simp [h])
  have d' : PyData.eqv (.tuple (f.texts.map Datum.toD)) (.tuple (g.texts.map Datum.toD)) = decide (f.texts = g.texts) := d.trans (by by_cases h : f.texts = g.texts <;> simp [h])
  have e' : PyData.eqv (.str f.first) (.str g.first) = decide (f.first = g.first) := e
  show PyData.eqvAll _ _ = _
  simp only [PyData.eqvAll, a, b', c', d', e']
  cases f; cases g
  simp only [Fl.mk.injEq]
  rw [Bool.eq_iff_iff]
  simp
theorem shaped_file {n : Nat} {f : Fl} (h : Gd n f) : SeqAt.shaped (datFl f) = true := by
  have k1 := SeqAt.canLay_of_shaped (sh_tup (xs := f.known) (fun x _ => ⟨trivial, trivial⟩) (by decide))
  have k2 := SeqAt.canLay_of_shaped (sh_tup (xs := f.names) (okW_ok h.names.ok) (by decide))
  have k3 := SeqAt.canLay_of_shaped (sh_tup (xs := f.texts) (okW_ok h.texts.ok) (by decide))
  have d1 := PySem.W.depthAll_map f.known
  have d2 := PySem.W.depthAll_map f.names
  have d3 := PySem.W.depthAll_map f.texts
  have d4 := Datum.depth_le f.id
  have z1 : Datum.depth Mk ≤ 10 := by decide
  have z2 : Datum.depth Wd ≤ 10 := by decide
  have l4 : (Datum.toD f.id).canLay0 = true := Enc.lay f.id ⟨trivial, trivial⟩
  have l5 : (PyData.str f.first).canLay0 = true := h.fok
  unfold SeqAt.shaped datFl
  simp only [PyData.canLay0, PyData.canLayAll0, PyData.depth, PyData.depthAll] at *
  simp [k1, k2, k3, l4, l5]
  omega
theorem neFl {n m : Nat} {f g : Fl} {k j : Val} {h : HM} (hf : Gd n f) (hg : Gd m g) (hk : tupL k = some (f.known.map eM)) (hj : tupL j = some (g.known.map eM)) : vNe (eFk f k) (eFk g j) h = .ok (.bl (!decide (f = g))) h := by
  unfold vNe
  rw [dat_eq (datF_file hk), dat_eq (datF_file hj)]
  simp only [shaped_file hf, shaped_file hg, Bool.and_self, if_true, eqv_file]
end
end MM
namespace MM
open PySem L2 PySem.W
noncomputable section
theorem isName_lname (c : Int) : isName (.str (sg (lname c))) = true := by
  have h := lname_len c
  rw [isName_sg]
  simp only [h, and_self, decide_true, Bool.true_and, List.all_eq_true, decide_eq_true_eq]
  exact fun x hx => lname_mem hx
theorem isText_ltext (c : Int) : isText (.str (sg (ltext c))) = true := by
  rw [isText_sg]
  exact decide_eq_true (ltext_len c)
end
end MM
namespace MM
open PySem L2 PySem.W
end MM
namespace MM
open PySem L2 PySem.W
noncomputable section
def m_House_init : FM := mF 2 (sSeq (sFldM 0 0 (eVar 0) (eVar 1))
  (sSeq (sFldM 0 1 (eVar 0) (eC (.int 0)))
  (sSeq (sFldM 0 2 (eVar 0) (eDictT))
  (sFldM 0 3 (eVar 0) (eDictK)))))
def m_House_ids : FM := mF 2 (sRet (eBi bTuple (aCons (eLc (iVal (eBi bSorted (aCons (eFld 0 2 (eVar 0)) (aNil)))) (gNm 1) (tNotM (tTru (eCall m_is_gone (aCons (e2 vIx (eFld 0 2 (eVar 0)) (eVar 1)) (aNil))))) (eVar 1) [1] frozen) (aNil))))
def m_House_gone : FM := mF 2 (sRet (eBi bTuple (aCons (eLc (iVal (eBi bSorted (aCons (eFld 0 2 (eVar 0)) (aNil)))) (gNm 1) (tTru (eCall m_is_gone (aCons (e2 vIx (eFld 0 2 (eVar 0)) (eVar 1)) (aNil)))) (eVar 1) [1] frozen) (aNil))))
def m_House_number : FM := mF 1 (sRet (eFld 0 0 (eVar 0)))
def m_House_count : FM := mF 1 (sRet (eFld 0 1 (eVar 0)))
def m_House_there : FM := mF 2 (sSeq (sIf (tOrM (tOf (e2 vNotIn (eVar 1) (eFld 0 2 (eVar 0)))) (tTru (eCall m_is_gone (aCons (e2 vIx (eFld 0 2 (eVar 0)) (eVar 1)) (aNil))))) (sRaise 1) (sNil))
  (sRet (e2 vIx (eFld 0 2 (eVar 0)) (eVar 1))))
def m_House_file : FM := mF 2 (sSeq (sIf (tOf (e2 vNotIn (eVar 1) (eFld 0 2 (eVar 0)))) (sRaise 1) (sNil))
  (sRet (e2 vIx (eFld 0 2 (eVar 0)) (eVar 1))))
def m_House_next_mark : FM := mF 1 (sSeq (sFldM 0 1 (eVar 0) (e2 vAdd (eFld 0 1 (eVar 0)) (eC (.int 1))))
  (sRet (eDisp mkTup (aCons (eFld 0 0 (eVar 0)) (aCons (eFld 0 1 (eVar 0)) (aNil))))))
def m_House_drop : FM := mF 3 (sSeq (sAsg (eMeth 0 m_House_there (eVar 0) (aCons (eVar 1) (aNil))) (gNm 2))
  (sSub (eFld 0 2 (eVar 0)) (eVar 1) (eDisp mkTup (aCons (eVar 1) (aCons (e2 vIx (eVar 2) (eC (.int 1))) (aCons (eCall s_known_together (aCons (e2 vIx (eVar 2) (eC (.int 2))) (aCons (eDisp mkTup (aCons (eMeth 0 m_House_next_mark (eVar 0) aNil) (aNil))) (aNil)))) (aCons (eDisp mkTup (aNil)) (aCons (eDisp mkTup (aNil)) (aNil)))))))))
def m_House_must_be_name : FM := mF 2 (sIf (tNotM (tTru (eCall m_is_name (aCons (eVar 1) (aNil))))) (sRaise 2) (sNil))
def m_House_must_be_text : FM := mF 2 (sIf (tNotM (tTru (eCall m_is_text (aCons (eVar 1) (aNil))))) (sRaise 3) (sNil))
def m_House_make : FM := mF 4 (sSeq (sDrop (eMeth 0 m_House_must_be_name (eVar 0) (aCons (eVar 1) (aNil))))
  (sSeq (sDrop (eMeth 0 m_House_must_be_text (eVar 0) (aCons (eVar 2) (aNil))))
  (sSeq (sAsg (eMeth 0 m_House_next_mark (eVar 0) aNil) (gNm 3))
  (sSeq (sSub (eFld 0 2 (eVar 0)) (eVar 3) (eDisp mkTup (aCons (eVar 3) (aCons (eVar 1) (aCons (eDisp mkTup (aCons (eVar 3) (aNil))) (aCons (eDisp mkTup (aNil)) (aCons (eDisp mkTup (aCons (eDisp mkTup (aCons (eVar 3) (aCons (eVar 2) (aNil)))) (aNil))) (aNil))))))))
  (sRet (eVar 3))))))
def m_House_write : FM := mF 5 (sSeq (sAsg (eMeth 0 m_House_there (eVar 0) (aCons (eVar 1) (aNil))) (gNm 3))
  (sSeq (sDrop (eMeth 0 m_House_must_be_text (eVar 0) (aCons (eVar 2) (aNil))))
  (sSeq (sAsg (eMeth 0 m_House_next_mark (eVar 0) aNil) (gNm 4))
  (sSub (eFld 0 2 (eVar 0)) (eVar 1) (eDisp mkTup (aCons (eVar 1) (aCons (e2 vIx (eVar 3) (eC (.int 1))) (aCons (eCall s_known_together (aCons (e2 vIx (eVar 3) (eC (.int 2))) (aCons (eDisp mkTup (aCons (eVar 4) (aNil))) (aNil)))) (aCons (e2 vIx (eVar 3) (eC (.int 3))) (aCons (eDisp mkTup (aCons (eDisp mkTup (aCons (eVar 4) (aCons (eVar 2) (aNil)))) (aNil))) (aNil)))))))))))
def m_House_rename : FM := mF 5 (sSeq (sAsg (eMeth 0 m_House_there (eVar 0) (aCons (eVar 1) (aNil))) (gNm 3))
  (sSeq (sDrop (eMeth 0 m_House_must_be_name (eVar 0) (aCons (eVar 2) (aNil))))
  (sSeq (sAsg (eMeth 0 m_House_next_mark (eVar 0) aNil) (gNm 4))
  (sSub (eFld 0 2 (eVar 0)) (eVar 1) (eDisp mkTup (aCons (eVar 1) (aCons (e2 vIx (eVar 3) (eC (.int 1))) (aCons (eCall s_known_together (aCons (e2 vIx (eVar 3) (eC (.int 2))) (aCons (eDisp mkTup (aCons (eVar 4) (aNil))) (aNil)))) (aCons (eDisp mkTup (aCons (eDisp mkTup (aCons (eVar 4) (aCons (eVar 2) (aNil)))) (aNil))) (aCons (e2 vIx (eVar 3) (eC (.int 4))) (aNil)))))))))))
def m_House_take : FM := mF 4 (sSeq (sAsg (e2 vIx (eVar 1) (eC (.int 0))) (gNm 2))
  (sSeq (sAsg (eGet2 (eFld 0 2 (eVar 0)) (eVar 2) (eC .non)) (gNm 3))
  (sSeq (sIf (tOf (e2 vIsNot (eVar 3) (eC .non))) (sAsg (eCall m_put_together (aCons (eVar 3) (aCons (eVar 1) (aNil)))) (gNm 1)) (sNil))
  (sSeq (sSub (eFld 0 2 (eVar 0)) (eVar 2) (eVar 1))
  (sRet (e2 vNe (eVar 1) (eVar 3)))))))
def m_House_heard : FM := mF 2 (sRet (eBi bTuple (aCons (eLc (iVal (eBi bSorted (aCons (eFld 0 2 (eVar 0)) (aNil)))) (gNm 1) (tYesM) (eDisp mkTup (aCons (eVar 1) (aCons (e2 vIx (e2 vIx (eFld 0 2 (eVar 0)) (eVar 1)) (eC (.int 2))) (aNil)))) [1] frozen) (aNil))))
section
variable {l : Loc} {h : HM}
@[simp] theorem ev_eMeth {c : Nat} {m : FM} {mo : EM} {as : AM} : eMeth c m mo as l h = (mo l h).bind fun o h1 => if isIns c o h1 = true then (as l h1).bind fun xs h2 => m (o :: xs) h2 else .bad := (rfl)
@[simp] theorem ev_eFld {c i : Nat} {mo : EM} : eFld c i mo l h = (mo l h).bind (getF c i) := (rfl)
@[simp] theorem ev_sFldM {c i : Nat} {mo mv : EM} : sFldM c i mo mv l h = (mv l h).thn l fun y h1 => (mo l h1).thn l fun o h2 => match setF c i o y h2 with
  | some h3 => .nx l h3
  | none => .bad := (rfl)
@[simp] theorem ev_sSub {mo mi mv : EM} : sSub mo mi mv l h = (mv l h).thn l fun y h1 => (mo l h1).thn l fun o h2 => (mi l h2).thn l fun i h3 => match setI o i y h3 with
  | some h4 => .nx l h4
  | none => .bad := (rfl)
@[simp] theorem ev_eMake {c : Nat} {m : FM} {as : AM} : eMake c m as l h = (as l h).bind fun xs h1 => (m (.ref h1.length :: xs) (h1 ++ [.ins c []])).bind fun v h2 => match v with
  | .non => .ok (.ref h1.length) h2
  | _ => .bad := (rfl)
@[simp] theorem ev_sRaise {c : Nat} : sRaise c l h = .exc c l h := (rfl)
@[simp] theorem ev_eDictT : eDictT l h = .ok (.ref h.length) (h ++ [.dT []]) := (rfl)
@[simp] theorem ev_eDictK : eDictK l h = .ok (.ref h.length) (h ++ [.dK []]) := (rfl)
end
def mKey (m : Mk) : List Key := [.inl m.1, .inl m.2]
theorem tkey_eM (m : Mk) : tkey (eM m) = some (mKey m) := rfl
theorem mKey_inj {m n : Mk} (h : mKey m = mKey n) : m = n := by
  unfold mKey at h
  simp only [List.cons.injEq, Sum.inl.injEq, and_true] at h
  exact Prod.ext h.1 h.2
section
variable {α : Type} {e : α → Val} {d : List (Mk × α)} {w : Mk} {a : α}
def kvM (e : α → Val) (d : List (Mk × α)) : List (List Key × Val) := d.map fun p => (mKey p.1, e p.2)
def getM (d : List (Mk × α)) (w : Mk) : Option α := (d.find? fun p => decide (p.1 = w)).map (·.2)
def hasM (d : List (Mk × α)) (w : Mk) : Bool := d.any fun p => decide (p.1 = w)
def puM (d : List (Mk × α)) (w : Mk) (a : α) : List (Mk × α) := if hasM d w = true then d.map (fun p => if p.1 = w then (p.1, a) else p) else d ++ [(w, a)]
theorem getK_kvM : getK (kvM e d) (mKey w) = (getM d w).map e := by
  unfold getK kvM getM
  induction d with
  | nil => rfl
  | cons p d ih =>
    simp only [List.map_cons, List.find?_cons]
    by_cases h : p.1 = w
    · simp [h]
    · have h' : ¬ mKey p.1 = mKey w := fun z => h (mKey_inj z)
      simp only [h, h', decide_false]
      exact ih
theorem putV_kvM : putV (kvM e d) (mKey w) (e a) = kvM e (puM d w a) := by
  have h1 : ((kvM e d).any fun kv => decide (kv.1 = mKey w)) = hasM d w := by
    unfold kvM hasM
    rw [List.any_map]
    congr 1
    funext p
    have : mKey p.1 = mKey w ↔ p.1 = w := ⟨mKey_inj, fun z => by rw [z]⟩
    simp [Function.comp, this]
  unfold putV puM
  rw [h1]
  by_cases h : hasM d w = true
  · rw [if_pos h, if_pos h]
    unfold kvM
    rw [List.map_map, List.map_map]
    apply List.map_congr_left
    intro p _
    simp only [Function.comp]
    by_cases q : p.1 = w
    · simp [q]
    · have q' : ¬ mKey p.1 = mKey w := fun z => q (mKey_inj z)
      simp [q, q']
  · rw [if_neg h, if_neg h]
    simp [kvM]
theorem kvM_len : (kvM e d).length = d.length := by simp [kvM]
theorem kvM_keys : (kvM e d).map (fun p => Val.tup (p.1.map keyV)) = (d.map (·.1)).map eM := by
  simp only [kvM, List.map_map]
  rfl
theorem dGet_M {h : HM} {n : Nat} (hn : h[n]? = some (.dT (kvM e d))) : dGet n (eM w) h = some ((getM d w).map e) := by
  unfold dGet
  simp only [hn, tkey_eM, Option.map_some, getK_kvM]
theorem hasM_get : hasM d w = (getM d w).isSome := by
  unfold hasM getM
  rw [Option.isSome_map, Bool.eq_iff_iff, List.any_eq_true, List.find?_isSome]
theorem vNotIn_M {h : HM} {n : Nat} (hn : h[n]? = some (.dT (kvM e d))) : vNotIn (eM w) (.ref n) h = .ok (.bl (!hasM d w)) h := by
  have : inB (eM w) (.ref n) h = some (hasM d w) := by
    unfold inB
    simp only [hn, dGet_M hn, hasM_get]
    simp
  unfold vNotIn
  rw [this]
theorem vIx_M {h : HM} {n : Nat} (hn : h[n]? = some (.dT (kvM e d))) (hg : getM d w = some a) : vIx (.ref n) (eM w) h = .ok (e a) h := by
  have h2 := dGet_M (w := w) hn
  rw [hg] at h2
  simp only [vIx, hn, h2]
  rfl
theorem setI_M {h : HM} {n : Nat} (hn : h[n]? = some (.dT (kvM e d))) (hl : d.length ≤ 1000) : setI (.ref n) (eM w) (e a) h = some (h.set n (.dT (kvM e (puM d w a)))) := by
  simp only [setI, hn, tkey_eM, Option.map_some, putV_kvM]
  rw [if_pos (by rw [kvM_len, sizeLine_eq]; omega)]
theorem getM_put {v : Mk} : getM (puM d w a) v = if v = w then some a else getM d v := by
  unfold puM
  by_cases h : hasM d w = true
  · rw [if_pos h]
    unfold getM hasM at *
    induction d with
    | nil => cases h
    | cons p d ih =>
      simp only [List.map_cons, List.find?_cons]
      by_cases q : p.1 = w
      · rw [if_pos q]
        by_cases r : v = w
        · subst r; simp [q]
        · have : ¬ p.1 = v := fun z => r (z.symm.trans q)
          simp only [this, decide_false, if_neg r]
          clear ih h
          induction d with
          | nil => rfl
          | cons p' d ih =>
            simp only [List.map_cons, List.find?_cons]
            by_cases q' : p'.1 = w
            · have : ¬ p'.1 = v := fun z => r (z.symm.trans q')
              simp only [if_pos q', this, decide_false]
              exact ih
            · simp only [if_neg q']
              by_cases s : p'.1 = v
              · simp [s]
              · simp only [s, decide_false]; exact ih
      · rw [if_neg q]
        by_cases r : p.1 = v
        · have : ¬ v = w := fun z => q (r.trans z)
          simp [r, this]
        · simp only [r, decide_false]
          exact ih (by simpa [q] using h)
  · rw [if_neg h]
    have h0 : getM d w = none := by
      cases e0 : getM d w with
      | none => rfl
      | some _ => rw [hasM_get, e0] at h; exact absurd rfl h
    unfold getM at *
    rw [List.find?_append]
    by_cases r : v = w
    · subst r
      simp only [Option.map_eq_none_iff] at h0
      simp [h0]
    · have : ¬ w = v := fun z => r z.symm
      simp [r, this]
theorem puM_keys : (puM d w a).map (·.1) = if hasM d w = true then d.map (·.1) else d.map (·.1) ++ [w] := by
  unfold puM
  split
  · rw [List.map_map]
    apply List.map_congr_left
    intro p _
    simp only [Function.comp]
    split <;> rfl
  · simp
theorem mem_keysM : w ∈ d.map (·.1) ↔ hasM d w = true := by simp [hasM]
theorem puM_nd (h : (d.map (·.1)).Nodup) : ((puM d w a).map (·.1)).Nodup := by
  rw [puM_keys]
  split
  · exact h
  · rename_i q
    rw [List.nodup_append]
    refine ⟨h, by simp, fun x hx y hy z => ?_⟩
    simp at hy
    subst hy z
    exact q (mem_keysM.mp hx)
theorem puM_len : (puM d w a).length ≤ d.length + 1 := by
  unfold puM
  split <;> simp
theorem sorted_M {h : HM} {n : Nat} (hn : h[n]? = some (.dT (kvM e d))) (hl : d.length ≤ 1000000) : bSorted [.ref n] h = .ok (.lst ((srt (d.map (·.1))).map eM)) h := by
  have hk : (d.map (·.1)).length ≤ 1000000 := by simpa using hl
  have so := canSort (sortable_pair (d.map (·.1))) hk (by decide)
  have hd := datFs_map (d.map (·.1))
  have hs := sortV_enc (d.map (·.1))
  simp only [show (Enc.enc : Mk → Val) = eM from rfl] at hd hs
  simp only [bSorted, sortItems, hn, kvM_keys, hd, if_pos so, hs]
end
/-- how what is known stands: as it was handed in, or new -/
def kB (b : Bool) (ks : List Mk) : Val := if b = true then .ptup (ks.map eM) else .tup (ks.map eM)
theorem tupL_kB (b : Bool) (ks : List Mk) : tupL (kB b ks) = some (ks.map eM) := by cases b <;> rfl
def eB (p : Fl × Bool) : Val := eFk p.1 (kB p.2 p.1.known)
structure Hs where
  own : Int
  acts : Int
  shelf : List (Mk × (Fl × Bool))
def insH (n : Nat) (s : Hs) : Ob := .ins 0 [.int s.own, .int s.acts, .ref (n + 1), .ref (n + 2)]
structure HouseAt (h : HM) (n : Nat) (s : Hs) : Prop where
  ins : h[n]? = some (insH n s)
  sh : h[n + 1]? = some (.dT (kvM eB s.shelf))
def putH (h : HM) (n : Nat) (s : Hs) : HM := (h.set n (insH n s)).set (n + 1) (.dT (kvM eB s.shelf))
def newH (h : HM) (j : Int) : HM := h ++ [insH h.length ⟨j, 0, []⟩, .dT [], .dK []]
section
variable {h : HM} {n : Nat} {s s' : Hs} {w : Mk} {p : Fl × Bool} {j : Int}
theorem HouseAt.lt (H : HouseAt h n s) : n + 1 < h.length := (List.getElem?_eq_some_iff.mp H.sh).1
theorem putH_len : (putH h n s).length = h.length := by simp [putH]
theorem putH_get {k : Nat} (h1 : k ≠ n) (h2 : k ≠ n + 1) : (putH h n s)[k]? = h[k]? := by
  unfold putH
  rw [List.getElem?_set_ne (by omega), List.getElem?_set_ne (by omega)]
theorem HouseAt.put (H : HouseAt h n s) : HouseAt (putH h n s') n s' := by
  have := H.lt
  refine ⟨?_, ?_⟩
  · unfold putH
    rw [List.getElem?_set_ne (by omega), List.getElem?_set_self (by omega)]
  · unfold putH
    rw [List.getElem?_set_self (by simp; omega)]
theorem HouseAt.keep {k : Nat} {t : Hs} (H : HouseAt h k t) (h1 : k + 1 < n ∨ n + 1 < k) : HouseAt (putH h n s) k t := ⟨by rw [putH_get (by omega) (by omega)]; exact H.ins, by rw [putH_get (by omega) (by omega)]; exact H.sh⟩
theorem HouseAt.app {g : HM} (H : HouseAt h n s) : HouseAt (h ++ g) n s := by
  have := H.lt
  exact ⟨by rw [List.getElem?_append_left (by omega)]; exact H.ins, by rw [List.getElem?_append_left (by omega)]; exact H.sh⟩
theorem putH_put : putH (putH h n s) n s' = putH h n s' := by
  unfold putH
  apply List.ext_getElem?
  intro i
  simp only [List.getElem?_set, List.length_set]
  by_cases a : n + 1 = i <;> by_cases b : n = i <;> simp [a, b]
theorem set_same {o : Ob} (e : h[n]? = some o) : h.set n o = h := by
  apply List.ext_getElem?
  intro i
  rw [List.getElem?_set]
  split
  · rename_i q; subst q
    have := (List.getElem?_eq_some_iff.mp e).1
    rw [if_pos this, e]
  · rfl
theorem HouseAt.isI (H : HouseAt h n s) : isIns 0 (.ref n) h = true := by simp [isIns, H.ins, insH]
theorem HouseAt.f0 (H : HouseAt h n s) : getF 0 0 (.ref n) h = .ok (.int s.own) h := by simp [getF, H.ins, insH]
theorem HouseAt.f1 (H : HouseAt h n s) : getF 0 1 (.ref n) h = .ok (.int s.acts) h := by simp [getF, H.ins, insH]
theorem HouseAt.f2 (H : HouseAt h n s) : getF 0 2 (.ref n) h = .ok (.ref (n + 1)) h := by simp [getF, H.ins, insH]
theorem at_number (H : HouseAt h n s) : m_House_number [.ref n] h = .ok (.int s.own) h := by
  unfold m_House_number mF
  simp [H.f0]
theorem at_count (H : HouseAt h n s) : m_House_count [.ref n] h = .ok (.int s.acts) h := by
  unfold m_House_count mF
  simp [H.f1]
theorem at_init {l0 : HM} : m_House_init [.ref h.length, .int j] (h ++ [.ins 0 []]) = .ok .non (newH h j) := by
  unfold m_House_init mF
  simp [setF, newH, insH]
theorem nx_var {i : Nat} {l : Loc} {h : HM} : (∃ v, eVar i l h = .ok v h) ∨ eVar i l h = .bad := by
  unfold eVar
  split
  · exact .inl ⟨_, rfl⟩
  · exact .inr rfl
theorem nx_fldM {c i k : Nat} {l : Loc} {h : HM} {mv : EM} (hv : (∃ v h', mv l h = .ok v h') ∨ mv l h = .bad) : (∃ h', sFldM c i (eVar k) mv l h = .nx l h') ∨ sFldM c i (eVar k) mv l h = .bad := by
  rw [ev_sFldM]
  rcases hv with ⟨v, h', e⟩ | e
  · rw [e, Res.thn_ok]
    rcases nx_var (i := k) (l := l) (h := h') with ⟨u, e1⟩ | e1
    · rw [e1, Res.thn_ok]
      split
      · exact .inl ⟨_, rfl⟩
      · exact .inr rfl
    · rw [e1]; exact .inr rfl
  · rw [e]; exact .inr rfl
theorem nx_House_init : ∀ xs h c h2, m_House_init xs h ≠ .exc c h2 := by
  intro xs h c h2 e
  unfold m_House_init mF at e
  generalize xs.map some ++ List.replicate (2 - xs.length) none = l at e
  simp only [ev_sSeq] at e
  rcases nx_fldM (c := 0) (i := 0) (k := 0) (l := l) (h := h) (mv := eVar 1) (nx_var.imp (fun ⟨v, q⟩ => ⟨v, _, q⟩) id) with ⟨h1, e1⟩ | e1
  · rw [e1] at e
    dsimp only at e
    rcases nx_fldM (c := 0) (i := 1) (k := 0) (l := l) (h := h1) (mv := eC (.int 0)) (.inl ⟨_, _, rfl⟩) with ⟨h2, e2⟩ | e2
    · rw [e2] at e
      dsimp only at e
      rcases nx_fldM (c := 0) (i := 2) (k := 0) (l := l) (h := h2) (mv := eDictT) (.inl ⟨_, _, rfl⟩) with ⟨h3, e3⟩ | e3
      · rw [e3] at e
        dsimp only at e
        rcases nx_fldM (c := 0) (i := 3) (k := 0) (l := l) (h := h3) (mv := eDictK) (.inl ⟨_, _, rfl⟩) with ⟨h4, e4⟩ | e4
        · rw [e4] at e; cases e
        · rw [e4] at e; cases e
      · rw [e3] at e; cases e
    · rw [e2] at e; cases e
  · rw [e1] at e; cases e
/-- the next mark -/
def Hs.mark (s : Hs) : Mk := (s.own, s.acts + 1)
def Hs.up (s : Hs) : Hs := ⟨s.own, s.acts + 1, s.shelf⟩
theorem at_next (H : HouseAt h n s) : m_House_next_mark [.ref n] h = .ok (eM s.mark) (putH h n s.up) := by
  have e : h.set n (insH n s.up) = putH h n s.up := by
    unfold putH
    rw [set_same (n := n + 1)]
    have := H.lt
    rw [List.getElem?_set_ne (by omega)]
    exact H.sh
  have e1 : setF 0 1 (.ref n) (.int (s.acts + 1)) h = some (putH h n s.up) := by
    rw [← e]
    simp [setF, H.ins, insH, Hs.up]
  have H' : HouseAt (putH h n s.up) n s.up := H.put
  unfold m_House_next_mark mF
  simp [H.f1, e1, H'.f0, H'.f1]
  rfl
theorem must_name {v : Val} (hv : ∀ h, m_is_name [v] h = .ok (.bl true) h) : m_House_must_be_name [.ref n, v] h = .ok .non h := by
  unfold m_House_must_be_name mF
  simp [hv]
theorem must_text {v : Val} (hv : ∀ h, m_is_text [v] h = .ok (.bl true) h) : m_House_must_be_text [.ref n, v] h = .ok .non h := by
  unfold m_House_must_be_text mF
  simp [hv]
theorem at_isGoneB {h : HM} : m_is_gone [eB p] h = .ok (.bl (decide (p.1.texts = []))) h := at_isGone
theorem at_there (H : HouseAt h n s) (hg : getM s.shelf w = some p) (ht : p.1.texts ≠ []) : m_House_there [.ref n, eM w] h = .ok (eB p) h := by
  have hm : hasM s.shelf w = true := by rw [hasM_get, hg]; rfl
  unfold m_House_there mF
  simp [H.f2, vNotIn_M H.sh, vIx_M H.sh hg, hm, at_isGoneB, ht]
theorem at_hfile (H : HouseAt h n s) (hg : getM s.shelf w = some p) : m_House_file [.ref n, eM w] h = .ok (eB p) h := by
  have hm : hasM s.shelf w = true := by rw [hasM_get, hg]; rfl
  unfold m_House_file mF
  simp [H.f2, vNotIn_M H.sh, vIx_M H.sh hg, hm]
def Hs.putF (s : Hs) (F : Fl) (b : Bool) : Hs := ⟨s.own, s.acts, puM s.shelf F.id (F, b)⟩
theorem set_putF (H : HouseAt h n s) {F : Fl} {b : Bool} (hl : s.shelf.length ≤ 1000) : setI (.ref (n + 1)) (eM F.id) (eB (F, b)) h = some (putH h n (s.putF F b)) := by
  rw [setI_M H.sh hl]
  have : h.set n (insH n (s.putF F b)) = h := set_same H.ins
  unfold putH
  rw [this]
  rfl
def makeF (m : Mk) (x y : Str) : Fl := ⟨m, x, [m], [], [(m, y)]⟩
theorem at_make (H : HouseAt h n s) {x y : Str} (hx : isName (.str x) = true) (hy : isText (.str y) = true) (lx : x.length ≤ 1000000) (ly : y.length ≤ 1000000) (hl : s.shelf.length ≤ 1000) :
    m_House_make [.ref n, .str x, .str y] h = .ok (eM s.mark) (putH h n (s.up.putF (makeF s.mark x y) false)) := by
  have a1 : ∀ h, m_is_name [.str x] h = .ok (.bl true) h := fun h => by rw [at_isName (by simp [isAsk, tyN, sizeLine_eq]; omega), hx]
  have a2 : ∀ h, m_is_text [.str y] h = .ok (.bl true) h := fun h => by rw [at_isText (by simp [isAsk, tyN, sizeLine_eq]; omega), hy]
  have H' : HouseAt (putH h n s.up) n s.up := H.put
  have e := set_putF H' (F := makeF s.mark x y) (b := false) hl
  rw [putH_put] at e
  have e' : setI (.ref (n + 1)) (eM s.mark) (.tup [eM s.mark, .str x, .tup [eM s.mark], .tup [], .tup [.tup [eM s.mark, .str y]]]) (putH h n s.up) = some (putH h n (s.up.putF (makeF s.mark x y) false)) := e
  unfold m_House_make mF
  simp [H.isI, must_name a1, must_text a2, at_next H, H'.f2, e']
def writeF (f : Fl) (m : Mk) (y : Str) : Fl := ⟨f.id, f.first, srt (joinK f.known [m]), f.names, [(m, y)]⟩
def renameF (f : Fl) (m : Mk) (x : Str) : Fl := ⟨f.id, f.first, srt (joinK f.known [m]), [(m, x)], f.texts⟩
def dropF (f : Fl) (m : Mk) : Fl := ⟨f.id, f.first, srt (joinK f.known [m]), [], []⟩
theorem ixB1 {h : HM} : vIx (eB p) (.int 1) h = .ok (.str p.1.first) h := rfl
theorem ixB2 {h : HM} : vIx (eB p) (.int 2) h = .ok (kB p.2 p.1.known) h := rfl
theorem ixB3 {h : HM} : vIx (eB p) (.int 3) h = .ok (.tup (p.1.names.map eW)) h := rfl
theorem ixB4 {h : HM} : vIx (eB p) (.int 4) h = .ok (.tup (p.1.texts.map eW)) h := rfl
theorem known_more {h : HM} {m : Mk} (nd : (p.1.known.map (·.1)).Nodup) (lk : p.1.known.length ≤ 1000) : s_known_together [kB p.2 p.1.known, .tup [eM m]] h = .ok (.tup ((srt (joinK p.1.known [m])).map eM)) h :=
  knownT_ok (b := [m]) (tupL_kB _ _) rfl nd lk (by simp)
theorem at_write (H : HouseAt h n s) (hg : getM s.shelf w = some p) (hi : p.1.id = w) (ht : p.1.texts ≠ []) {y : Str} (hy : isText (.str y) = true) (ly : y.length ≤ 1000000) (nd : (p.1.known.map (·.1)).Nodup) (lk : p.1.known.length ≤ 1000) (hl : s.shelf.length ≤ 1000) :
    m_House_write [.ref n, eM w, .str y] h = .ok .non (putH h n (s.up.putF (writeF p.1 s.mark y) false)) := by
  subst hi
  have a2 : ∀ h, m_is_text [.str y] h = .ok (.bl true) h := fun h => by rw [at_isText (by simp [isAsk, tyN, sizeLine_eq]; omega), hy]
  have H' : HouseAt (putH h n s.up) n s.up := H.put
  have e := set_putF H' (F := writeF p.1 s.mark y) (b := false) hl
  rw [putH_put] at e
  have e' : setI (.ref (n + 1)) (eM p.1.id) (.tup [eM p.1.id, .str p.1.first, .tup ((srt (joinK p.1.known [s.mark])).map eM), .tup (p.1.names.map eW), .tup [.tup [eM s.mark, .str y]]]) (putH h n s.up) = some (putH h n (s.up.putF (writeF p.1 s.mark y) false)) := e
  unfold m_House_write mF
  simp [H.isI, at_there H hg ht, must_text a2, at_next H, H'.f2, ixB1, ixB2, ixB3, known_more nd lk, e']
theorem at_rename (H : HouseAt h n s) (hg : getM s.shelf w = some p) (hi : p.1.id = w) (ht : p.1.texts ≠ []) {x : Str} (hx : isName (.str x) = true) (lx : x.length ≤ 1000000) (nd : (p.1.known.map (·.1)).Nodup) (lk : p.1.known.length ≤ 1000) (hl : s.shelf.length ≤ 1000) :
    m_House_rename [.ref n, eM w, .str x] h = .ok .non (putH h n (s.up.putF (renameF p.1 s.mark x) false)) := by
  subst hi
  have a1 : ∀ h, m_is_name [.str x] h = .ok (.bl true) h := fun h => by rw [at_isName (by simp [isAsk, tyN, sizeLine_eq]; omega), hx]
  have H' : HouseAt (putH h n s.up) n s.up := H.put
  have e := set_putF H' (F := renameF p.1 s.mark x) (b := false) hl
  rw [putH_put] at e
  have e' : setI (.ref (n + 1)) (eM p.1.id) (.tup [eM p.1.id, .str p.1.first, .tup ((srt (joinK p.1.known [s.mark])).map eM), .tup [.tup [eM s.mark, .str x]], .tup (p.1.texts.map eW)]) (putH h n s.up) = some (putH h n (s.up.putF (renameF p.1 s.mark x) false)) := e
  unfold m_House_rename mF
  simp [H.isI, at_there H hg ht, must_name a1, at_next H, H'.f2, ixB1, ixB2, ixB4, known_more nd lk, e']
theorem at_drop (H : HouseAt h n s) (hg : getM s.shelf w = some p) (hi : p.1.id = w) (ht : p.1.texts ≠ []) (nd : (p.1.known.map (·.1)).Nodup) (lk : p.1.known.length ≤ 1000) (hl : s.shelf.length ≤ 1000) :
    m_House_drop [.ref n, eM w] h = .ok .non (putH h n (s.up.putF (dropF p.1 s.mark) false)) := by
  subst hi
  have H' : HouseAt (putH h n s.up) n s.up := H.put
  have e := set_putF H' (F := dropF p.1 s.mark) (b := false) hl
  rw [putH_put] at e
  have e' : setI (.ref (n + 1)) (eM p.1.id) (.tup [eM p.1.id, .str p.1.first, .tup ((srt (joinK p.1.known [s.mark])).map eM), .tup [], .tup []]) (putH h n s.up) = some (putH h n (s.up.putF (dropF p.1 s.mark) false)) := e
  unfold m_House_drop mF
  simp [H.isI, at_there H hg ht, at_next H, H'.f2, ixB1, ixB2, known_more nd lk, e']
/-- the ids that live, those that are gone: rising -/
def Hs.dead (s : Hs) (w : Mk) : Bool := match getM s.shelf w with
  | some p => decide (p.1.texts = [])
  | none => false
theorem get_of_key (hw : w ∈ srt (s.shelf.map (·.1))) : ∃ p, getM s.shelf w = some p := by
  have := mem_keysM.mp (srt_mem.mp hw)
  rw [hasM_get, Option.isSome_iff_exists] at this
  exact this
theorem at_ids (H : HouseAt h n s) (hl : s.shelf.length ≤ 1000) : m_House_ids [.ref n] h = .ok (.tup (((srt (s.shelf.map (·.1))).filter fun w => !s.dead w).map eM)) h := by
  have lk : (srt (s.shelf.map (·.1))).length ≤ 1000 := by rw [srt_len]; simpa using hl
  unfold m_House_ids mF
  simp [H.f2, sorted_M H.sh (by omega : s.shelf.length ≤ 1000000), srcOf]
  rw [lc_filterM (fun w => !s.dead w) eM (fun w hw => ⟨_, rfl, by
    obtain ⟨p, hp⟩ := get_of_key hw
    simp [wipeL, H.f2, vIx_M H.sh hp, at_isGoneB, Hs.dead, hp], fun _ => by simp [wipeL]⟩) (by rw [sizeLine_eq]; omega)]
  rfl
theorem at_gone (H : HouseAt h n s) (hl : s.shelf.length ≤ 1000) : m_House_gone [.ref n] h = .ok (.tup (((srt (s.shelf.map (·.1))).filter fun w => s.dead w).map eM)) h := by
  have lk : (srt (s.shelf.map (·.1))).length ≤ 1000 := by rw [srt_len]; simpa using hl
  unfold m_House_gone mF
  simp [H.f2, sorted_M H.sh (by omega : s.shelf.length ≤ 1000000), srcOf]
  rw [lc_filterM (fun w => s.dead w) eM (fun w hw => ⟨_, rfl, by
    obtain ⟨p, hp⟩ := get_of_key hw
    simp [wipeL, H.f2, vIx_M H.sh hp, at_isGoneB, Hs.dead, hp], fun _ => by simp [wipeL]⟩) (by rw [sizeLine_eq]; omega)]
  rfl
def Hs.heardV (s : Hs) (w : Mk) : Val := match getM s.shelf w with
  | some p => .tup [eM w, kB p.2 p.1.known]
  | none => .non
theorem at_hheard (H : HouseAt h n s) (hl : s.shelf.length ≤ 1000) : m_House_heard [.ref n] h = .ok (.tup ((srt (s.shelf.map (·.1))).map s.heardV)) h := by
  have lk : (srt (s.shelf.map (·.1))).length ≤ 1000 := by rw [srt_len]; simpa using hl
  unfold m_House_heard mF
  simp [H.f2, sorted_M H.sh (by omega : s.shelf.length ≤ 1000000), srcOf]
  rw [lc_mapM s.heardV (fun w hw => ⟨_, rfl, by
    obtain ⟨p, hp⟩ := get_of_key hw
    simp [wipeL, H.f2, vIx_M H.sh hp, ixB2, Hs.heardV, hp]⟩) (by rw [sizeLine_eq]; omega)]
  rfl
end
end
end MM
namespace MM
open PySem L2 PySem.W
noncomputable section
section
variable {α : Type} {e : α → Val} {d : List (Mk × α)} {w : Mk} {a : α}
theorem getM_map {β : Type} {g : Mk → α → β} : getM (d.map fun p => (p.1, g p.1 p.2)) w = (getM d w).map (g w) := by
  unfold getM
  induction d with
  | nil => rfl
  | cons p d ih =>
    simp only [List.map_cons, List.find?_cons]
    by_cases h : p.1 = w
    · subst h; simp
    · simp only [h, decide_false]; exact ih
theorem puM_map {β : Type} {g : Mk → α → β} : puM (d.map fun p => (p.1, g p.1 p.2)) w (g w a) = (puM d w a).map fun p => (p.1, g p.1 p.2) := by
  have e1 : hasM (d.map fun p => (p.1, g p.1 p.2)) w = hasM d w := by unfold hasM; rw [List.any_map]; rfl
  unfold puM
  rw [e1]
  split
  · rw [List.map_map, List.map_map]
    apply List.map_congr_left
    intro p _
    simp only [Function.comp]
    by_cases h : p.1 = w
    · subst h; simp
    · simp [h]
  · simp
end
/-- the files, without how what is known stands -/
def fg (D : List (Mk × (Fl × Bool))) : List (Mk × Fl) := D.map fun p => (p.1, p.2.1)
theorem fg_get {D : List (Mk × (Fl × Bool))} {w : Mk} : getM (fg D) w = (getM D w).map (·.1) := getM_map (g := fun _ (q : Fl × Bool) => q.1)
theorem fg_put {D : List (Mk × (Fl × Bool))} {w : Mk} {F : Fl} {b : Bool} : fg (puM D w (F, b)) = puM (fg D) w F := (puM_map (g := fun _ (q : Fl × Bool) => q.1) (a := (F, b))).symm
theorem fg_keys {D : List (Mk × (Fl × Bool))} : (fg D).map (·.1) = D.map (·.1) := by simp [fg, Function.comp]
theorem fg_len {D : List (Mk × (Fl × Bool))} : (fg D).length = D.length := by simp [fg]
theorem fg_has {D : List (Mk × (Fl × Bool))} {w : Mk} : hasM (fg D) w = hasM D w := by unfold hasM fg; rw [List.any_map]; rfl
/-- a house with a number, a count, and these files -/
def HE (h : HM) (n : Nat) (own acts : Int) (E : List (Mk × Fl)) : Prop := ∃ D, fg D = E ∧ HouseAt h n ⟨own, acts, D⟩
/-- but for the house at n all stays -/
structure Fr (n : Nat) (h h' : HM) : Prop where
  len : h'.length = h.length
  get : ∀ k, k ≠ n → k ≠ n + 1 → h'[k]? = h[k]?
theorem putH_fr {h : HM} {n : Nat} {s : Hs} : Fr n h (putH h n s) := ⟨putH_len, fun k a b => putH_get a b⟩
def deadE (E : List (Mk × Fl)) (w : Mk) : Bool := match getM E w with
  | some f => decide (f.texts = [])
  | none => false
section
variable {h h' : HM} {n : Nat} {own acts : Int} {E : List (Mk × Fl)} {w : Mk} {f : Fl}
theorem HE.keep {k : Nat} (H : HE h k own acts E) (fr : Fr n h h') (h1 : k + 1 < n ∨ n + 1 < k) : HE h' k own acts E := by
  obtain ⟨D, e, q⟩ := H
  exact ⟨D, e, ⟨by rw [fr.get _ (by omega) (by omega)]; exact q.ins, by rw [fr.get _ (by omega) (by omega)]; exact q.sh⟩⟩
theorem HE.app {g : HM} (H : HE h n own acts E) : HE (h ++ g) n own acts E := by
  obtain ⟨D, e, q⟩ := H
  exact ⟨D, e, q.app⟩
theorem HE.set {k : Nat} {o : Ob} (H : HE h n own acts E) (h1 : k ≠ n) (h2 : k ≠ n + 1) : HE (h.set k o) n own acts E := by
  obtain ⟨D, e, q⟩ := H
  exact ⟨D, e, ⟨by rw [List.getElem?_set_ne (by omega)]; exact q.ins, by rw [List.getElem?_set_ne (by omega)]; exact q.sh⟩⟩
theorem HE.isI (H : HE h n own acts E) : isIns 0 (.ref n) h = true := by obtain ⟨D, e, q⟩ := H; exact q.isI
theorem HE.lt (H : HE h n own acts E) : n + 1 < h.length := by obtain ⟨D, e, q⟩ := H; exact q.lt
theorem he_number (H : HE h n own acts E) : m_House_number [.ref n] h = .ok (.int own) h := by obtain ⟨D, e, q⟩ := H; exact at_number q
theorem he_count (H : HE h n own acts E) : m_House_count [.ref n] h = .ok (.int acts) h := by obtain ⟨D, e, q⟩ := H; exact at_count q
theorem he_file (H : HE h n own acts E) (hg : getM E w = some f) : ∃ b, m_House_file [.ref n, eM w] h = .ok (eB (f, b)) h := by
  obtain ⟨D, e, q⟩ := H
  subst e
  rw [fg_get] at hg
  cases e1 : getM D w with
  | none => rw [e1] at hg; cases hg
  | some p =>
    rw [e1] at hg
    obtain ⟨f', b⟩ := p
    cases hg
    exact ⟨b, at_hfile q e1⟩
theorem he_ids (H : HE h n own acts E) (hl : E.length ≤ 1000) : m_House_ids [.ref n] h = .ok (.tup (((srt (E.map (·.1))).filter fun w => !deadE E w).map eM)) h := by
  obtain ⟨D, e, q⟩ := H
  subst e
  rw [at_ids q (by rw [← fg_len]; exact hl), fg_keys]
  congr 4
  funext w
  simp only [Hs.dead, deadE, fg_get]
  cases getM D w <;> rfl
theorem he_gone (H : HE h n own acts E) (hl : E.length ≤ 1000) : m_House_gone [.ref n] h = .ok (.tup (((srt (E.map (·.1))).filter fun w => deadE E w).map eM)) h := by
  obtain ⟨D, e, q⟩ := H
  subst e
  rw [at_gone q (by rw [← fg_len]; exact hl), fg_keys]
  congr 4
  funext w
  simp only [Hs.dead, deadE, fg_get]
  cases getM D w <;> rfl
/-- what is told as heard: each id with what is known there -/
def heardB (E : List (Mk × Fl)) (b : Mk → Bool) (w : Mk) : Val := match getM E w with
  | some f => .tup [eM w, kB (b w) f.known]
  | none => .non
theorem he_heard (H : HE h n own acts E) (hl : E.length ≤ 1000) : ∃ b, m_House_heard [.ref n] h = .ok (.tup ((srt (E.map (·.1))).map (heardB E b))) h := by
  obtain ⟨D, e, q⟩ := H
  subst e
  refine ⟨fun w => match getM D w with | some p => p.2 | none => false, ?_⟩
  rw [at_hheard q (by rw [← fg_len]; exact hl), fg_keys]
  congr 3
  funext w
  simp only [Hs.heardV, heardB, fg_get]
  cases getM D w <;> rfl
theorem HE.made (j : Int) : HE (newH h j) h.length j 0 [] := by
  refine ⟨[], rfl, ?_, ?_⟩
  · unfold newH; simp
  · unfold newH; simp; rfl
theorem newH_len {j : Int} : (newH h j).length = h.length + 3 := by simp [newH]
theorem he_make (H : HE h n own acts E) {x y : Str} (hx : isName (.str x) = true) (hy : isText (.str y) = true) (lx : x.length ≤ 1000000) (ly : y.length ≤ 1000000) (hl : E.length ≤ 1000) :
    ∃ h', m_House_make [.ref n, .str x, .str y] h = .ok (eM (own, acts + 1)) h' ∧ HE h' n own (acts + 1) (puM E (own, acts + 1) (makeF (own, acts + 1) x y)) ∧ Fr n h h' := by
  obtain ⟨D, e, q⟩ := H
  subst e
  exact ⟨_, at_make q hx hy lx ly (by rw [← fg_len]; exact hl), ⟨_, fg_put, q.put⟩, putH_fr⟩
theorem get_fg {D : List (Mk × (Fl × Bool))} (hg : getM (fg D) w = some f) : ∃ b, getM D w = some (f, b) := by
  rw [fg_get] at hg
  cases e1 : getM D w with
  | none => rw [e1] at hg; cases hg
  | some p => rw [e1] at hg; obtain ⟨f', b⟩ := p; cases hg; exact ⟨b, rfl⟩
theorem he_write (H : HE h n own acts E) (hg : getM E w = some f) (hi : f.id = w) (ht : f.texts ≠ []) {y : Str} (hy : isText (.str y) = true) (ly : y.length ≤ 1000000) (nd : (f.known.map (·.1)).Nodup) (lk : f.known.length ≤ 1000) (hl : E.length ≤ 1000) :
    ∃ h', m_House_write [.ref n, eM w, .str y] h = .ok .non h' ∧ HE h' n own (acts + 1) (puM E w (writeF f (own, acts + 1) y)) ∧ Fr n h h' := by
  obtain ⟨D, e, q⟩ := H
  subst e
  obtain ⟨b, hb⟩ := get_fg hg
  refine ⟨_, at_write q hb hi ht hy ly nd lk (by rw [← fg_len]; exact hl), ⟨_, ?_, q.put⟩, putH_fr⟩
  subst hi
  exact fg_put
theorem he_rename (H : HE h n own acts E) (hg : getM E w = some f) (hi : f.id = w) (ht : f.texts ≠ []) {x : Str} (hx : isName (.str x) = true) (lx : x.length ≤ 1000000) (nd : (f.known.map (·.1)).Nodup) (lk : f.known.length ≤ 1000) (hl : E.length ≤ 1000) :
    ∃ h', m_House_rename [.ref n, eM w, .str x] h = .ok .non h' ∧ HE h' n own (acts + 1) (puM E w (renameF f (own, acts + 1) x)) ∧ Fr n h h' := by
  obtain ⟨D, e, q⟩ := H
  subst e
  obtain ⟨b, hb⟩ := get_fg hg
  refine ⟨_, at_rename q hb hi ht hx lx nd lk (by rw [← fg_len]; exact hl), ⟨_, ?_, q.put⟩, putH_fr⟩
  subst hi
  exact fg_put
theorem he_drop (H : HE h n own acts E) (hg : getM E w = some f) (hi : f.id = w) (ht : f.texts ≠ []) (nd : (f.known.map (·.1)).Nodup) (lk : f.known.length ≤ 1000) (hl : E.length ≤ 1000) :
    ∃ h', m_House_drop [.ref n, eM w] h = .ok .non h' ∧ HE h' n own (acts + 1) (puM E w (dropF f (own, acts + 1))) ∧ Fr n h h' := by
  obtain ⟨D, e, q⟩ := H
  subst e
  obtain ⟨b, hb⟩ := get_fg hg
  refine ⟨_, at_drop q hb hi ht nd lk (by rw [← fg_len]; exact hl), ⟨_, ?_, q.put⟩, putH_fr⟩
  subst hi
  exact fg_put
theorem isNot_file {k : Val} {h : HM} : vIsNot (eFk f k) .non h = .ok (.bl true) h := (rfl)
theorem isNot_non {h : HM} : vIsNot .non .non h = .ok (.bl false) h := (rfl)
theorem ne_non {k : Nat} {b : Bool} {h : HM} (g : Gd k f) : vNe (eB (f, b)) .non h = .ok (.bl true) h := by
  have e : dat .non h = some .none := (rfl)
  have e1 : PyData.eqv (datFl f) .none = false := (rfl)
  have e2 : SeqAt.shaped .none = true := by decide
  unfold vNe
  rw [dat_eq (show datF (eB (f, b)) = _ from datF_file (tupL_kB _ _)), e]
  simp only [shaped_file g, e2, Bool.and_self, if_true, e1]
  rfl
theorem take_new {k : Nat} {b : Bool} (H : HE h n own acts E) (hg : getM E f.id = none) (g : Gd k f) (hl : E.length ≤ 999) :
    ∃ h', m_House_take [.ref n, eB (f, b)] h = .ok (.bl true) h' ∧ HE h' n own acts (puM E f.id f) ∧ Fr n h h' := by
  obtain ⟨D, e, q⟩ := H
  subst e
  have hl2 : D.length ≤ 999 := by rw [← fg_len]; exact hl
  have hg2 : getM D f.id = none := by
    rw [fg_get] at hg
    cases e : getM D f.id with
    | none => rfl
    | some p => rw [e] at hg; cases hg
  have e1 : dGet (n + 1) (eM f.id) h = some none := by rw [dGet_M q.sh, hg2]; rfl
  have e2 : isDict (n + 1) h = true := by unfold isDict; rw [q.sh]
  have e3 : setI (.ref (n + 1)) (eM f.id) (eB (f, b)) h = some (putH h n ((Hs.mk own acts D).putF f b)) := set_putF q (F := f) (b := b) (by show D.length ≤ 1000; omega)
  have i0 : vIx (eB (f, b)) (.int 0) h = .ok (eM f.id) h := rfl
  refine ⟨putH h n ((Hs.mk own acts D).putF f b), ?_, ⟨_, fg_put (b := b), q.put⟩, putH_fr⟩
  unfold m_House_take mF
  simp [i0, q.f2, e1, e2, isNot_non, e3, ne_non g]
theorem take_old {k m : Nat} {b : Bool} {F : Fl} (H : HE h n own acts E) (hg : getM E f.id = some F) (hi : F.id = f.id) (gF : Gd m F) (hw : Wff f.id F.first k f) (hk : k ≤ 400) (hm : 6 ≤ m) (hm2 : m ≤ 400) (gj : Gd 1000 (joinF F f)) (hl : E.length ≤ 999) :
    ∃ h', m_House_take [.ref n, eB (f, b)] h = .ok (.bl (!decide (joinF F f = F))) h' ∧ HE h' n own acts (puM E f.id (joinF F f)) ∧ Fr n h h' := by
  obtain ⟨D, e, q⟩ := H
  subst e
  have hl2 : D.length ≤ 999 := by rw [← fg_len]; exact hl
  obtain ⟨c, hg2⟩ := get_fg hg
  have e1 : dGet (n + 1) (eM f.id) h = some (some (eB (F, c))) := by rw [dGet_M q.sh, hg2]; rfl
  have e2 : isDict (n + 1) h = true := by unfold isDict; rw [q.sh]
  have ej : (joinF F f).id = f.id := hi
  have e3 : setI (.ref (n + 1)) (eM f.id) (eB (joinF F f, false)) h = some (putH h n ((Hs.mk own acts D).putF (joinF F f) false)) := by
    rw [← ej]
    exact set_putF q (F := joinF F f) (b := false) (by show D.length ≤ 1000; omega)
  have i0 : vIx (eB (f, b)) (.int 0) h = .ok (eM f.id) h := rfl
  have wF := gF.wff hm
  rw [hi] at wF
  have pt : m_put_together [eB (F, c), eB (f, b)] h = .ok (eB (joinF F f, false)) h := at_putT wF hw (by omega) (by omega) (tupL_kB _ _) (tupL_kB _ _)
  have nn : vIsNot (eB (F, c)) .non h = .ok (.bl true) h := isNot_file
  have ne : ∀ h, vNe (eB (joinF F f, false)) (eB (F, c)) h = .ok (.bl (!decide (joinF F f = F))) h := fun h => neFl gj gF (tupL_kB _ _) (tupL_kB _ _)
  refine ⟨putH h n ((Hs.mk own acts D).putF (joinF F f) false), ?_, ⟨puM D f.id (joinF F f, false), fg_put, ?_⟩, putH_fr⟩
  · unfold m_House_take mF
    simp [i0, q.f2, e1, e2, nn, pt, e3, ne]
  · have := q.put (s' := (Hs.mk own acts D).putF (joinF F f) false)
    unfold Hs.putF at this
    rw [ej] at this
    simpa [Hs.putF, ej] using this
end
end
end MM
namespace MM
open PySem L2 PySem.W
noncomputable section
theorem same_map {α : Type} {l : List α} {f g : α → Val} (h : ∀ w ∈ l, sameB (f w) (g w) = true) : sameBs (l.map f) (l.map g) = true := by
  induction l with
  | nil => simp [sameBs]
  | cons x l ih =>
    simp only [List.map_cons, sameBs, h x List.mem_cons_self, ih fun w hw => h w (List.mem_cons_of_mem _ hw), Bool.and_self]
theorem pl_map {α : Type} {l : List α} {f : α → Val} {d : Nat} (hl : l.length ≤ 1000000) (h : ∀ w ∈ l, pl d (f w) = true) : pl (d + 1) (.tup (l.map f)) = true := by
  refine pl_tupL (xs := l.map f) rfl (by simpa using hl) ?_
  rw [List.all_map, List.all_eq_true]
  exact h
theorem same_maps {α : Type} {l : List α} {f g : α → Val} {h : HM} (hl : l.length ≤ 1000000) (h1 : ∀ w ∈ l, pl 29 (f w) = true) (h2 : ∀ w ∈ l, pl 29 (g w) = true) (hs : ∀ w ∈ l, sameB (f w) (g w) = true) : s_law_same [.tup (l.map f), .tup (l.map g)] h = .ok (.bl true) h := by
  rw [same_ok (pl_map hl h1) (pl_map hl h2), sameB_tup rfl rfl, same_map hs]
theorem same_marks (ks : List Mk) (hl : ks.length ≤ 1000000) (h : HM) : s_law_same [.tup (ks.map eM), .tup (ks.map eM)] h = .ok (.bl true) h := by
  have p := pl_tupL (d := 29) (k := .tup (ks.map eM)) rfl (by simpa using hl) (pl_mks ks)
  rw [same_ok p p, sameB_tup rfl rfl, same_mks]
theorem same_int (a : Int) (h : HM) : s_law_same [.int a, .int a] h = .ok (.bl true) h := by rw [same_ok (by simp [pl]) (by simp [pl])]; simp [sameB]
theorem same_bl (a : Bool) (h : HM) : s_law_same [.bl a, .bl a] h = .ok (.bl true) h := by rw [same_ok (by simp [pl]) (by simp [pl])]; simp [sameB]
theorem same_mark (m : Mk) (h : HM) : s_law_same [eM m, eM m] h = .ok (.bl true) h := by rw [same_ok (by simp [pl, eM]) (by simp [pl, eM])]; simp [sameB, sameBs, eM, tupL]
theorem Gd.mono {n m : Nat} {f : Fl} (g : Gd n f) (h : n ≤ m) : Gd m f := ⟨g.id, g.first, g.fok, g.known, g.own, g.names, g.texts, Nat.le_trans g.ln h, Nat.le_trans g.lt h⟩
theorem Wfw.mono {n m : Nat} {ks : List Mk} {xs : List Wd} (g : Wfw n ks xs) (h : n ≤ m) : Wfw m ks xs := ⟨g.nd, g.sd, g.ok, g.wi, Nat.le_trans g.len h⟩
theorem Wff.mono {w : Mk} {x : Str} {n m : Nat} {f : Fl} (g : Wff w x n f) (h : n ≤ m) : Wff w x m f := ⟨g.id, g.first, g.nd, g.pos, g.sd, Nat.le_trans g.len h, g.names.mono h, g.texts.mono h⟩
theorem Gd.wff6 {n : Nat} {f : Fl} (g : Gd n f) : Wff f.id f.first (n + 6) f := (g.mono (by omega : n ≤ n + 6)).wff (by omega)
theorem pl_fileG {n d : Nat} {F : Fl} {b : Bool} (g : Gd n F) (hn : n ≤ 900) : pl (d + 4) (eB (F, b)) = true := pl_file g.wff6 (by omega) g.fok (tupL_kB _ _)
theorem sameB_fileG {F : Fl} {b c : Bool} : sameB (eB (F, b)) (eB (F, c)) = true := sameB_file (tupL_kB _ _) (tupL_kB _ _)
theorem same_files {n : Nat} {F : Fl} {b c : Bool} {h : HM} (g : Gd n F) (hn : n ≤ 900) : s_law_same [eB (F, b), eB (F, c)] h = .ok (.bl true) h := by
  rw [same_ok (pl_fileG (d := 26) g hn) (pl_fileG (d := 26) g hn), sameB_fileG]
theorem pl_known {d : Nat} {ks : List Mk} {b : Bool} (hl : ks.length ≤ 1000) : pl (d + 2) (kB b ks) = true := pl_tupL (tupL_kB _ _) (by simp; omega) (pl_mks _)
theorem sameB_known {ks : List Mk} {b c : Bool} : sameB (kB b ks) (kB c ks) = true := by rw [sameB_tup (tupL_kB _ _) (tupL_kB _ _)]; exact same_mks _
@[simp] theorem ev_sLock {which : EM} {m : SM} {l : Loc} {h : HM} : sLock which m l h = match which l h with
  | .ok (.ref n) _ => (match h[n]? with
    | some o => (match lockO o with
      | some o' => (match m l (h.set n o') with
        | .nx l' h' => .nx l' (h'.set n o)
        | .rt v h' => .rt v (h'.set n o)
        | _ => .bad)
      | none => .bad)
    | none => .bad)
  | _ => .bad := (rfl)
theorem lc_inv2 {α : Type} {src : Src} {xs : List α} {e : α → Val} {g : GM} {te : EM} {l : Loc} {h : HM} (f : α → Val) (I : Nat → HM → Prop) (hlen : src.len = xs.length) (h0 : I 0 h)
    (hs : ∀ i x h, xs[i]? = some x → I i h → src.get i h = some (e x) ∧ ∃ l1 h', g (e x) l = some l1 ∧ te l1 h = .ok (f x) h' ∧ I (i + 1) h') (hok : ∀ h, I xs.length h → src.ok h = true) (hl : xs.length ≤ 1000000) :
    ∃ h', lcL src g tYesM te l src.len 0 h [] = .ok (xs.map f) h' ∧ I xs.length h' := by
  have gen : ∀ (n i : Nat) (acc : List Val) (h : HM), i + n = xs.length → acc.length = i → I i h → ∃ h', lcL src g tYesM te l n i h acc = .ok (acc ++ (xs.drop i).map f) h' ∧ I xs.length h' := by
    intro n
    induction n with
    | zero =>
      intro i acc h hi ha hI
      have : i = xs.length := by omega
      subst this
      exact ⟨h, by simp [lcL, hok h hI], hI⟩
    | succ n ih =>
      intro i acc h hi ha hI
      have hlt : i < xs.length := by omega
      obtain ⟨hg, l1, h', e1, e2, I2⟩ := hs i xs[i] h (by simp) hI
      obtain ⟨h2, e3, I3⟩ := ih (i + 1) (acc ++ [f xs[i]]) h' (by omega) (by simp [ha]) I2
      have hd : xs.drop i = xs[i] :: xs.drop (i + 1) := List.drop_eq_getElem_cons hlt
      refine ⟨h2, ?_, I3⟩
      simp only [lcL, hg, e1, tYesM, e2]
      rw [if_pos (by rw [sizeLine_eq]; omega), e3, hd, List.map_cons, List.append_assoc]
      rfl
  obtain ⟨h', a, b⟩ := gen xs.length 0 [] h (by omega) rfl h0
  exact ⟨h', by rw [hlen]; simpa using a, b⟩
end
end MM
namespace MM
open PySem L2 PySem.W
noncomputable section
inductive Kind where
  | make | write | rename | drop
deriving DecidableEq
/-- an act: its place in the book of all acts; the file; its mark; what was told; the places of the acts on this file that its house had heard of; the file's first name -/
structure Act where
  idx : Nat
  which : Mk
  mark : Mk
  kind : Kind
  what : Str
  past : List Nat
  first : Str
def Kind.tx : Kind → Bool
  | .make => true
  | .write => true
  | _ => false
def Kind.nm : Kind → Bool
  | .rename => true
  | _ => false
def Kind.offT : Kind → Bool
  | .write => true
  | .drop => true
  | _ => false
def Kind.offN : Kind → Bool
  | .rename => true
  | .drop => true
  | _ => false
/-- what stands after the acts of S on w: words of acts of a kind, that no act of a kind, which had heard of it, took away -/
def Stands (S : List Act) (w : Mk) (on off : Kind → Bool) (p : Wd) : Prop :=
  ∃ a ∈ S, a.which = w ∧ on a.kind = true ∧ p = (a.mark, a.what) ∧ ∀ b ∈ S, b.which = w → a.idx ∈ b.past → off b.kind = false
structure IsLeaf (S : List Act) (w : Mk) (F : Fl) : Prop where
  id : F.id = w
  first : ∀ a ∈ S, a.which = w → F.first = a.first
  known : ∀ p, within p F.known = true ↔ ∃ a ∈ S, a.which = w ∧ a.mark.1 = p.1 ∧ p.2 ≤ a.mark.2
  names : ∀ p, p ∈ F.names ↔ Stands S w Kind.nm Kind.offN p
  texts : ∀ p, p ∈ F.texts ↔ Stands S w Kind.tx Kind.offT p
/-- the book of all acts -/
structure OkA (A : List Act) : Prop where
  ij : ∀ a ∈ A, ∀ b ∈ A, a.idx = b.idx → a = b
  mki : ∀ a ∈ A, ∀ b ∈ A, a.mark = b.mark → a = b
  same : ∀ a ∈ A, ∀ b ∈ A, a.which = b.which → a.mark.1 = b.mark.1 → a.mark.2 < b.mark.2 → a.idx ∈ b.past
  pst : ∀ b ∈ A, ∀ i ∈ b.past, ∃ a ∈ A, a.idx = i ∧ a.which = b.which ∧ ∀ j ∈ a.past, j ∈ b.past
  lt : ∀ b ∈ A, ∀ i ∈ b.past, i < b.idx
  first : ∀ a ∈ A, ∀ b ∈ A, a.which = b.which → a.first = b.first
  rg : ∀ a ∈ A, Rg a.mark
  rgw : ∀ a ∈ A, Rg a.which
  nm : ∀ a ∈ A, isName (.str a.first) = true ∧ PyData.strOk a.first = true
  wt : ∀ a ∈ A, PyData.strOk a.what = true
  wn : ∀ a ∈ A, a.kind.nm = true → isName (.str a.what) = true
  wx : ∀ a ∈ A, a.kind.tx = true → isText (.str a.what) = true
  made : ∀ a ∈ A, ∃ c ∈ A, c.mark = a.which ∧ c.which = a.which ∧ (c = a ∨ c.idx ∈ a.past)
/-- what a house heard of -/
structure Closed (A S : List Act) : Prop where
  sub : ∀ a ∈ S, a ∈ A
  cl : ∀ b ∈ S, ∀ a ∈ A, a.idx ∈ b.past → a ∈ S
  nd : (S.map (·.idx)).Nodup
section
variable {A S T : List Act} {w : Mk} {F G : Fl}
theorem OkA.inj (O : OkA A) {a b : Act} (ha : a ∈ A) (hb : b ∈ A) (e : a.idx = b.idx) : a = b := O.ij a ha b hb e
/-- an act was heard of, if its mark is within what is known -/
theorem IsLeaf.heard (O : OkA A) (C : Closed A T) (L : IsLeaf T w G) {a : Act} (ha : a ∈ A) (hw : a.which = w) : within a.mark G.known = true ↔ a ∈ T := by
  rw [L.known]
  constructor
  · rintro ⟨b, hb, h1, h2, h3⟩
    have hbA := C.sub b hb
    by_cases e : a.mark.2 = b.mark.2
    · have : a.mark = b.mark := Prod.ext h2.symm e
      rw [O.mki a ha b hbA this]; exact hb
    · exact C.cl b hb a ha (O.same a ha b hbA (hw.trans h1.symm) h2.symm (by omega))
  · intro h
    exact ⟨a, h, hw, rfl, Int.le_refl _⟩
theorem stands_join (O : OkA A) (CS : Closed A S) (CT : Closed A T) {on off : Kind → Bool} {x y : List Wd} {kx ky : List Mk}
    (hx : ∀ p, p ∈ x ↔ Stands S w on off p) (hy : ∀ p, p ∈ y ↔ Stands T w on off p) (kS : ∀ a ∈ A, a.which = w → (within a.mark kx = true ↔ a ∈ S)) (kT : ∀ a ∈ A, a.which = w → (within a.mark ky = true ↔ a ∈ T)) {U : List Act} (hU : ∀ a, a ∈ U ↔ a ∈ S ∨ a ∈ T) (p : Wd) :
    p ∈ srt (joinW x kx y ky) ↔ Stands U w on off p := by
  rw [srt_mem, mem_joinW, hx, hy]
  -- of an act: whether it stands
  have one : ∀ {X Y : List Act}, Closed A X → Closed A Y → ∀ {kY : List Mk}, (∀ a ∈ A, a.which = w → (within a.mark kY = true ↔ a ∈ Y)) → (∀ a, a ∈ U ↔ a ∈ X ∨ a ∈ Y) → Stands X w on off p → (Stands Y w on off p ∨ within p.1 kY = false) → Stands U w on off p := by
    rintro X Y CX CY kY hk hU ⟨a, ha, hw, ho, rfl, hs⟩ h
    refine ⟨a, (hU a).mpr (.inl ha), hw, ho, rfl, fun b hb hbw hp => ?_⟩
    rcases (hU b).mp hb with hb | hb
    · exact hs b hb hbw hp
    · have haY : a ∈ Y := CY.cl b hb a (CX.sub a ha) hp
      rcases h with ⟨c, hc, _, _, e, hs2⟩ | h
      · have : a = c := O.mki a (CX.sub a ha) c (CY.sub c hc) (congrArg Prod.fst e)
        subst this
        exact hs2 b hb hbw hp
      · rw [(hk a (CX.sub a ha) hw).mpr haY] at h; cases h
  have two : ∀ {X Y : List Act}, Closed A X → ∀ {kY : List Mk}, (∀ a ∈ A, a.which = w → (within a.mark kY = true ↔ a ∈ Y)) → (∀ a, a ∈ U ↔ a ∈ X ∨ a ∈ Y) → (∃ a ∈ X, a.which = w ∧ on a.kind = true ∧ p = (a.mark, a.what) ∧ ∀ b ∈ U, b.which = w → a.idx ∈ b.past → off b.kind = false) → Stands X w on off p ∧ (Stands Y w on off p ∨ within p.1 kY = false) := by
    rintro X Y CX kY hk hU ⟨a, ha, hw, ho, rfl, hs⟩
    refine ⟨⟨a, ha, hw, ho, rfl, fun b hb => hs b ((hU b).mpr (.inl hb))⟩, ?_⟩
    cases e : within a.mark kY with
    | false => exact .inr rfl
    | true => exact .inl ⟨a, (hk a (CX.sub a ha) hw).mp e, hw, ho, rfl, fun b hb => hs b ((hU b).mpr (.inr hb))⟩
  have hU2 : ∀ a, a ∈ U ↔ a ∈ T ∨ a ∈ S := fun a => (hU a).trans Or.comm
  constructor
  · rintro (⟨h1, h2⟩ | ⟨h1, h2⟩)
    · exact one CS CT kT hU h1 h2
    · exact one CT CS kS hU2 h1 h2
  · rintro ⟨a, ha, hr⟩
    rcases (hU a).mp ha with h | h
    · exact .inl (two CS kT hU ⟨a, h, hr⟩)
    · exact .inr (two CT kS hU2 ⟨a, h, hr⟩)
/-- two houses' files put together: what the acts leave that either heard of -/
theorem IsLeaf.join {n m : Nat} (O : OkA A) (CS : Closed A S) (CT : Closed A T) (hF : IsLeaf S w F) (hG : IsLeaf T w G) (gF : Gd n F) (gG : Gd m G) {U : List Act} (hU : ∀ a, a ∈ U ↔ a ∈ S ∨ a ∈ T) (hT : ∃ a ∈ S, a.which = w) : IsLeaf U w (joinF F G) := by
  have kS := fun a ha hw => hF.heard (a := a) O CS ha hw
  have kT := fun a ha hw => hG.heard (a := a) O CT ha hw
  refine ⟨hF.id, fun a ha hw => ?_, fun p => ?_, fun p => stands_join O CS CT hF.names hG.names kS kT hU p, fun p => stands_join O CS CT hF.texts hG.texts kS kT hU p⟩
  · obtain ⟨c, hc, hcw⟩ := hT
    show F.first = _
    rw [hF.first c hc hcw]
    refine O.first c (CS.sub c hc) a ?_ (hcw.trans hw.symm)
    rcases (hU a).mp ha with h | h
    · exact CS.sub a h
    · exact CT.sub a h
  · show within p (srt (joinK F.known G.known)) = true ↔ _
    rw [within_joinK gF.known.nd gG.known.pos, Bool.or_eq_true, hF.known, hG.known]
    constructor
    · rintro (⟨a, h1, h2⟩ | ⟨a, h1, h2⟩)
      · exact ⟨a, (hU a).mpr (.inl h1), h2⟩
      · exact ⟨a, (hU a).mpr (.inr h1), h2⟩
    · rintro ⟨a, h1, h2⟩
      rcases (hU a).mp h1 with h | h
      · exact .inl ⟨a, h, h2⟩
      · exact .inr ⟨a, h, h2⟩
/-- there is but one -/
theorem IsLeaf.uniq {n m : Nat} (hF : IsLeaf S w F) (hG : IsLeaf T w G) (gF : Gd n F) (gG : Gd m G) (hS : ∀ a, a.which = w → (a ∈ S ↔ a ∈ T)) (hT : ∃ a ∈ S, a.which = w) : F = G := by
  have e4 : F.id = G.id := hF.id.trans hG.id.symm
  have e5 : F.first = G.first := by
    obtain ⟨c, hc, hcw⟩ := hT
    rw [hF.first c hc hcw, hG.first c ((hS c hcw).mp hc) hcw]
  have e1 : F.known = G.known := known_eq gF.known.nd gG.known.nd gF.known.sd gG.known.sd fun p => by
    rw [Bool.eq_iff_iff, hF.known, hG.known]
    constructor
    · rintro ⟨a, h1, h2, h3⟩; exact ⟨a, (hS a h2).mp h1, h2, h3⟩
    · rintro ⟨a, h1, h2, h3⟩; exact ⟨a, (hS a h2).mpr h1, h2, h3⟩
  have st : ∀ (on off : Kind → Bool) p, Stands S w on off p ↔ Stands T w on off p := fun on off p => by
    constructor
    · rintro ⟨a, h1, h2, h3, h4, h5⟩; exact ⟨a, (hS a h2).mp h1, h2, h3, h4, fun b hb hbw => h5 b ((hS b hbw).mpr hb) hbw⟩
    · rintro ⟨a, h1, h2, h3, h4, h5⟩; exact ⟨a, (hS a h2).mpr h1, h2, h3, h4, fun b hb hbw => h5 b ((hS b hbw).mp hb) hbw⟩
  have e2 : F.names = G.names := sd_eq gF.names.sd gG.names.sd (nd_fst gF.names.nd) (nd_fst gG.names.nd) fun p => by rw [hF.names, hG.names, st]
  have e3 : F.texts = G.texts := sd_eq gF.texts.sd gG.texts.sd (nd_fst gF.texts.nd) (nd_fst gG.texts.nd) fun p => by rw [hF.texts, hG.texts, st]
  cases F; cases G
  simp only at e1 e2 e3 e4 e5
  subst e1 e2 e3 e4 e5
  rfl
/-- no more words than acts -/
theorem stands_len {xs : List Wd} {on off : Kind → Bool} (nd : (xs.map (·.1)).Nodup) (C : ∀ a ∈ S, a ∈ A) (h : ∀ p, p ∈ xs ↔ Stands S w on off p) : xs.length ≤ A.length := by
  have : xs.map (·.1) ⊆ A.map (·.mark) := fun m hm => by
    obtain ⟨p, hp, rfl⟩ := List.mem_map.mp hm
    obtain ⟨a, ha, _, _, rfl, _⟩ := (h p).mp hp
    exact List.mem_map.mpr ⟨a, C a ha, rfl⟩
  have := List.Nodup.length_le_of_subset nd this
  simpa using this
theorem IsLeaf.cut {n : Nat} (C : Closed A S) (h : IsLeaf S w F) (g : Gd n F) : Gd A.length F := ⟨g.id, g.first, g.fok, g.known, g.own, g.names, g.texts, stands_len g.names.nd C.sub h.names, stands_len g.texts.nd C.sub h.texts⟩
end
end
end MM
namespace MM
open PySem L2 PySem.W
noncomputable section
/-- what an act more asks for -/
structure NewAct (A : List Act) (a : Act) : Prop where
  ix : ∀ b ∈ A, b.idx < a.idx
  mki : ∀ b ∈ A, b.mark.1 = a.mark.1 → b.mark.2 < a.mark.2
  same : ∀ b ∈ A, b.which = a.which → b.mark.1 = a.mark.1 → b.idx ∈ a.past
  pst : ∀ i ∈ a.past, ∃ b ∈ A, b.idx = i ∧ b.which = a.which ∧ ∀ j ∈ b.past, j ∈ a.past
  first : ∀ b ∈ A, b.which = a.which → b.first = a.first
  rg : Rg a.mark
  rgw : Rg a.which
  nm : isName (.str a.first) = true ∧ PyData.strOk a.first = true
  wt : PyData.strOk a.what = true
  wn : a.kind.nm = true → isName (.str a.what) = true
  wx : a.kind.tx = true → isText (.str a.what) = true
  made : a.mark = a.which ∨ ∃ c ∈ A, c.mark = a.which ∧ c.which = a.which ∧ c.idx ∈ a.past
section
variable {A S T : List Act} {w : Mk} {F G : Fl} {a : Act}
theorem mem_snoc {x : Act} : x ∈ A ++ [a] ↔ x ∈ A ∨ x = a := by simp
theorem OkA.new (O : OkA A) (N : NewAct A a) : OkA (A ++ [a]) := by
  have past_lt : ∀ i ∈ a.past, i < a.idx := fun i hi => by
    obtain ⟨b, hb, e, _⟩ := N.pst i hi
    have := N.ix b hb
    omega
  refine ⟨fun x hx y hy e => ?_, fun x hx y hy e => ?_, fun x hx y hy e1 e2 e3 => ?_, fun b hb i hi => ?_, fun b hb i hi => ?_, fun x hx y hy e => ?_, fun x hx => ?_, fun x hx => ?_, fun x hx => ?_, fun x hx => ?_, fun x hx => ?_, fun x hx => ?_, fun x hx => ?_⟩
  · rcases mem_snoc.mp hx with h1 | h1 <;> rcases mem_snoc.mp hy with h2 | h2
    · exact O.ij x h1 y h2 e
    · subst h2; have := N.ix x h1; omega
    · subst h1; have := N.ix y h2; omega
    · rw [h1, h2]
  · rcases mem_snoc.mp hx with h1 | h1 <;> rcases mem_snoc.mp hy with h2 | h2
    · exact O.mki x h1 y h2 e
    · subst h2; have := N.mki x h1 (congrArg Prod.fst e); rw [e] at this; omega
    · subst h1; have := N.mki y h2 (congrArg Prod.fst e.symm); rw [e] at this; omega
    · rw [h1, h2]
  · rcases mem_snoc.mp hx with h1 | h1 <;> rcases mem_snoc.mp hy with h2 | h2
    · exact O.same x h1 y h2 e1 e2 e3
    · subst h2; exact N.same x h1 e1 e2
    · subst h1; have := N.mki y h2 e2.symm; omega
    · rw [h1, h2] at e3; omega
  · rcases mem_snoc.mp hb with hb | rfl
    · obtain ⟨c, hc, r⟩ := O.pst b hb i hi
      exact ⟨c, mem_snoc.mpr (.inl hc), r⟩
    · obtain ⟨c, hc, r⟩ := N.pst i hi
      exact ⟨c, mem_snoc.mpr (.inl hc), r⟩
  · rcases mem_snoc.mp hb with hb | rfl
    · exact O.lt b hb i hi
    · exact past_lt i hi
  · rcases mem_snoc.mp hx with h1 | h1 <;> rcases mem_snoc.mp hy with h2 | h2
    · exact O.first x h1 y h2 e
    · subst h2; exact N.first x h1 e
    · subst h1; exact (N.first y h2 e.symm).symm
    · rw [h1, h2]
  · rcases mem_snoc.mp hx with hx | rfl
    · exact O.rg x hx
    · exact N.rg
  · rcases mem_snoc.mp hx with hx | rfl
    · exact O.rgw x hx
    · exact N.rgw
  · rcases mem_snoc.mp hx with hx | rfl
    · exact O.nm x hx
    · exact N.nm
  · rcases mem_snoc.mp hx with hx | rfl
    · exact O.wt x hx
    · exact N.wt
  · rcases mem_snoc.mp hx with hx | rfl
    · exact O.wn x hx
    · exact N.wn
  · rcases mem_snoc.mp hx with hx | rfl
    · exact O.wx x hx
    · exact N.wx
  · rcases mem_snoc.mp hx with hx | rfl
    · obtain ⟨c, hc, r⟩ := O.made x hx
      exact ⟨c, mem_snoc.mpr (.inl hc), r⟩
    · rcases N.made with e | ⟨c, hc, r1, r2, r3⟩
      · exact ⟨x, mem_snoc.mpr (.inr rfl), e, rfl, .inl rfl⟩
      · exact ⟨c, mem_snoc.mpr (.inl hc), r1, r2, .inr r3⟩
theorem Closed.more (O : OkA A) (N : NewAct A a) (C : Closed A S) : Closed (A ++ [a]) S := by
  refine ⟨fun x hx => mem_snoc.mpr (.inl (C.sub x hx)), fun b hb x hx hp => ?_, C.nd⟩
  rcases mem_snoc.mp hx with hx | rfl
  · exact C.cl b hb x hx hp
  · have h1 := O.lt b (C.sub b hb) _ hp
    have h2 := N.ix b (C.sub b hb)
    omega
/-- the act's house hears of it -/
theorem Closed.new (O : OkA A) (N : NewAct A a) (C : Closed A S) (hp : ∀ i ∈ a.past, ∃ b ∈ S, b.idx = i) : Closed (A ++ [a]) (S ++ [a]) := by
  refine ⟨fun x hx => ?_, fun b hb x hx hp2 => ?_, ?_⟩
  · rcases mem_snoc.mp hx with hx | rfl
    · exact mem_snoc.mpr (.inl (C.sub x hx))
    · exact mem_snoc.mpr (.inr rfl)
  · rcases mem_snoc.mp hb with hb | rfl
    · exact mem_snoc.mpr (.inl ((C.more O N).cl b hb x hx hp2))
    · obtain ⟨c, hc, e⟩ := hp _ hp2
      rcases mem_snoc.mp hx with hx | rfl
      · rw [← O.inj (C.sub c hc) hx e]
        exact mem_snoc.mpr (.inl hc)
      · have := N.ix c (C.sub c hc)
        omega
  · rw [List.map_append, List.nodup_append]
    refine ⟨C.nd, by simp, fun i hi j hj e => ?_⟩
    obtain ⟨c, hc, rfl⟩ := List.mem_map.mp hi
    simp at hj
    have := N.ix c (C.sub c hc)
    omega
theorem stands_other (O : OkA A) (C : Closed A S) (hne : a.which ≠ w) {on off : Kind → Bool} {p : Wd} : Stands (S ++ [a]) w on off p ↔ Stands S w on off p := by
  constructor
  · rintro ⟨b, hb, hw, ho, e, hs⟩
    rcases mem_snoc.mp hb with hb | rfl
    · exact ⟨b, hb, hw, ho, e, fun c hc => hs c (mem_snoc.mpr (.inl hc))⟩
    · exact absurd hw hne
  · rintro ⟨b, hb, hw, ho, e, hs⟩
    refine ⟨b, mem_snoc.mpr (.inl hb), hw, ho, e, fun c hc hcw => ?_⟩
    rcases mem_snoc.mp hc with hc | rfl
    · exact hs c hc hcw
    · exact absurd hcw hne
theorem IsLeaf.other (O : OkA A) (C : Closed A S) (hne : a.which ≠ w) (L : IsLeaf S w F) : IsLeaf (S ++ [a]) w F := by
  refine ⟨L.id, fun b hb hw => ?_, fun p => ?_, fun p => by rw [stands_other O C hne]; exact L.names p, fun p => by rw [stands_other O C hne]; exact L.texts p⟩
  · rcases mem_snoc.mp hb with hb | rfl
    · exact L.first b hb hw
    · exact absurd hw hne
  · rw [L.known]
    constructor
    · rintro ⟨b, hb, r⟩; exact ⟨b, mem_snoc.mpr (.inl hb), r⟩
    · rintro ⟨b, hb, hw, r⟩
      rcases mem_snoc.mp hb with hb | rfl
      · exact ⟨b, hb, hw, r⟩
      · exact absurd hw hne
/-- an act on w that had heard of all acts on w -/
theorem stands_act (O : OkA A) (N : NewAct A a) (C : Closed A S) (hw : a.which = w) (hall : ∀ b ∈ S, b.which = w → b.idx ∈ a.past) {on off : Kind → Bool} {p : Wd} :
    Stands (S ++ [a]) w on off p ↔ (off a.kind = false ∧ Stands S w on off p) ∨ (on a.kind = true ∧ p = (a.mark, a.what)) := by
  have self : a.idx ∉ a.past := fun h => by
    obtain ⟨b, hb, e, _⟩ := N.pst _ h
    have := N.ix b hb
    omega
  have old : ∀ b ∈ S, a.idx ∉ b.past := fun b hb h => by
    have h1 := O.lt b (C.sub b hb) _ h
    have h2 := N.ix b (C.sub b hb)
    omega
  constructor
  · rintro ⟨b, hb, hbw, ho, e, hs⟩
    rcases mem_snoc.mp hb with hb | rfl
    · exact .inl ⟨hs a (mem_snoc.mpr (.inr rfl)) hw (hall b hb hbw), b, hb, hbw, ho, e, fun c hc => hs c (mem_snoc.mpr (.inl hc))⟩
    · exact .inr ⟨ho, e⟩
  · rintro (⟨h1, b, hb, hbw, ho, e, hs⟩ | ⟨h1, h2⟩)
    · refine ⟨b, mem_snoc.mpr (.inl hb), hbw, ho, e, fun c hc hcw hp => ?_⟩
      rcases mem_snoc.mp hc with hc | rfl
      · exact hs c hc hcw hp
      · exact h1
    · refine ⟨a, mem_snoc.mpr (.inr rfl), hw, h1, h2, fun c hc hcw hp => ?_⟩
      rcases mem_snoc.mp hc with hc | rfl
      · exact absurd hp (old c hc)
      · exact absurd hp self
theorem known_act (hw : a.which = w) {ks : List Mk} (nd : (ks.map (·.1)).Nodup) (hp : 0 < a.mark.2) (hk : ∀ p, within p ks = true ↔ ∃ b ∈ S, b.which = w ∧ b.mark.1 = p.1 ∧ p.2 ≤ b.mark.2) (p : Mk) :
    within p (srt (joinK ks [a.mark])) = true ↔ ∃ b ∈ S ++ [a], b.which = w ∧ b.mark.1 = p.1 ∧ p.2 ≤ b.mark.2 := by
  rw [within_joinK nd (by simpa using hp), Bool.or_eq_true, hk]
  constructor
  · rintro (⟨b, hb, r⟩ | h)
    · exact ⟨b, mem_snoc.mpr (.inl hb), r⟩
    · simp [within] at h
      exact ⟨a, mem_snoc.mpr (.inr rfl), hw, h.1, h.2⟩
  · rintro ⟨b, hb, r⟩
    rcases mem_snoc.mp hb with hb | rfl
    · exact .inl ⟨b, hb, r⟩
    · exact .inr (by simp [within]; exact r.2)
/-- what a house's file comes to by its own act -/
def actF (F : Fl) (a : Act) : Fl := match a.kind with
  | .make => makeF a.mark a.first a.what
  | .write => writeF F a.mark a.what
  | .rename => renameF F a.mark a.what
  | .drop => dropF F a.mark
theorem IsLeaf.act (O : OkA A) (N : NewAct A a) (C : Closed A S) (hw : a.which = w) (hall : ∀ b ∈ S, b.which = w → b.idx ∈ a.past) (hk : a.kind ≠ .make) (L : IsLeaf S w F) (nd : (F.known.map (·.1)).Nodup) (hex : ∃ b ∈ S, b.which = w) : IsLeaf (S ++ [a]) w (actF F a) := by
  have hp : 0 < a.mark.2 := by have := N.rg; unfold Rg at this; omega
  have fst : ∀ b ∈ S ++ [a], b.which = w → F.first = b.first := fun b hb hbw => by
    rcases mem_snoc.mp hb with hb | rfl
    · exact L.first b hb hbw
    · obtain ⟨c, hc, hcw⟩ := hex
      rw [L.first c hc hcw]
      exact N.first c (C.sub c hc) (hcw.trans hbw.symm)
  have st := fun on off p => stands_act O N C hw hall (on := on) (off := off) (p := p)
  have kn := known_act (a := a) hw nd hp L.known
  unfold actF
  cases ek : a.kind with
  | make => exact absurd ek hk
  | write =>
    refine ⟨L.id, fst, kn, fun p => ?_, fun p => ?_⟩
    · rw [st, ek]; simp [writeF, Kind.offN, Kind.nm, L.names]
    · rw [st, ek]; simp [writeF, Kind.offT, Kind.tx]
  | rename =>
    refine ⟨L.id, fst, kn, fun p => ?_, fun p => ?_⟩
    · rw [st, ek]; simp [renameF, Kind.offN, Kind.nm]
    · rw [st, ek]; simp [renameF, Kind.offT, Kind.tx, L.texts]
  | drop =>
    refine ⟨L.id, fst, kn, fun p => ?_, fun p => ?_⟩
    · rw [st, ek]; simp [dropF, Kind.offN, Kind.nm]
    · rw [st, ek]; simp [dropF, Kind.offT, Kind.tx]
theorem IsLeaf.make (O : OkA A) (N : NewAct A a) (C : Closed A S) (hw : a.which = w) (hm : a.mark = w) (hk : a.kind = .make) (hno : ∀ b ∈ S, b.which ≠ w) : IsLeaf (S ++ [a]) w (makeF a.mark a.first a.what) := by
  have hp : 0 < a.mark.2 := by have := N.rg; unfold Rg at this; omega
  have st := fun on off p => stands_act O N C hw (fun b hb e => absurd e (hno b hb)) (on := on) (off := off) (p := p)
  have no : ∀ on off p, ¬ Stands S w on off p := fun on off p ⟨b, hb, hbw, _⟩ => hno b hb hbw
  refine ⟨hm, fun b hb hbw => ?_, fun p => ?_, fun p => ?_, fun p => ?_⟩
  · rcases mem_snoc.mp hb with hb | rfl
    · exact absurd hbw (hno b hb)
    · rfl
  · constructor
    · intro h
      simp [within, makeF] at h
      exact ⟨a, mem_snoc.mpr (.inr rfl), hw, h.1, h.2⟩
    · rintro ⟨b, hb, hbw, r⟩
      rcases mem_snoc.mp hb with hb | rfl
      · exact absurd hbw (hno b hb)
      · simp [within, makeF]; exact r
  · rw [st, hk]; simp [makeF, no, Kind.nm]
  · rw [st, hk]; simp [makeF, no, Kind.tx]
theorem Gk.one {m : Mk} (h : Rg m) : Gk [m] := ⟨by simp, sd_of_pw (List.pairwise_singleton _ _), fun k hk => by simp at hk; subst hk; exact h⟩
theorem Gw.nil {j : Nat} {ks : List Mk} : Gw j ks [] := ⟨by simp, sd_of_pw List.Pairwise.nil, fun p hp => (by cases hp), fun p hp => (by cases hp), fun p hp => (by cases hp), fun p hp => (by cases hp)⟩
theorem Gw.one {j : Nat} {ks : List Mk} {m : Mk} {y : Str} (h : Rg m) (hw : within m ks = true) (ho : PyData.strOk y = true) (hr : rightB j (.str y) = true) : Gw j ks [(m, y)] :=
  ⟨by simp, sd_of_pw (List.pairwise_singleton _ _), fun p hp => by simp at hp; subst hp; exact hw, fun p hp => by simp at hp; subst hp; exact h, fun p hp => by simp at hp; subst hp; exact ho, fun p hp => by simp at hp; subst hp; exact hr⟩
theorem Gw.up {j : Nat} {ks js : List Mk} {xs : List Wd} (h : Gw j ks xs) (hu : ∀ p, within p ks = true → within p js = true) : Gw j js xs := ⟨h.nd, h.sd, fun p hp => hu _ (h.wi p hp), h.rg, h.ok, h.ri⟩
theorem right0 {y : Str} (h : isName (.str y) = true) : rightB 0 (.str y) = true := h
theorem right1 {y : Str} (h : isText (.str y) = true) : rightB 1 (.str y) = true := h
theorem Gd.act {n : Nat} (N : NewAct A a) (g : Gd n F) (hk : a.kind ≠ .make) (hid : F.id = a.which) : Gd (n + 1) (actF F a) := by
  have gk : Gk (srt (joinK F.known [a.mark])) := g.known.join (Gk.one N.rg)
  have hp : 0 < a.mark.2 := by have := N.rg; unfold Rg at this; omega
  have up : ∀ p, within p F.known = true → within p (srt (joinK F.known [a.mark])) = true := fun p h => by
    rw [within_joinK g.known.nd (by simpa using hp), h]; rfl
  have own : within a.mark (srt (joinK F.known [a.mark])) = true := by
    rw [within_joinK g.known.nd (by simpa using hp)]
    simp [within]
  have ln := g.ln
  have lt := g.lt
  unfold actF
  cases ek : a.kind with
  | make => exact absurd ek hk
  | write => exact ⟨g.id, g.first, g.fok, gk, up _ g.own, g.names.up up, Gw.one N.rg own N.wt (right1 (N.wx (by rw [ek]; rfl))), by show F.names.length ≤ _; omega, by simp [writeF]⟩
  | rename => exact ⟨g.id, g.first, g.fok, gk, up _ g.own, Gw.one N.rg own N.wt (right0 (N.wn (by rw [ek]; rfl))), g.texts.up up, by simp [renameF], by show F.texts.length ≤ _; omega⟩
  | drop => exact ⟨g.id, g.first, g.fok, gk, up _ g.own, Gw.nil, Gw.nil, by simp [dropF], by simp [dropF]⟩
theorem Gd.make {n : Nat} (N : NewAct A a) (hk : a.kind = .make) : Gd (n + 1) (makeF a.mark a.first a.what) := by
  have own : within a.mark [a.mark] = true := by simp [within]
  exact ⟨N.rg, N.nm.1, N.nm.2, Gk.one N.rg, own, Gw.nil, Gw.one N.rg own N.wt (right1 (N.wx (by rw [hk]; rfl))), by simp [makeF], by simp [makeF]⟩
end
structure Shelf (S : List Act) (E : List (Mk × Fl)) : Prop where
  nd : (E.map (·.1)).Nodup
  ok : ∀ w F, getM E w = some F → (∃ a ∈ S, a.which = w) ∧ IsLeaf S w F ∧ ∃ n, Gd n F
  all : ∀ a ∈ S, ∃ F, getM E a.which = some F
section
variable {A S T U : List Act} {E : List (Mk × Fl)} {w : Mk} {F G : Fl} {a : Act}
theorem Shelf.gd (C : Closed A S) (H : Shelf S E) (hg : getM E w = some F) : Gd A.length F := by
  obtain ⟨_, L, n, g⟩ := H.ok w F hg
  exact L.cut C g
theorem Shelf.len (C : Closed A S) (H : Shelf S E) : E.length ≤ A.length := by
  have : E.map (·.1) ⊆ A.map (·.which) := fun w hw => by
    have := mem_keysM.mp hw
    rw [hasM_get, Option.isSome_iff_exists] at this
    obtain ⟨F, e⟩ := this
    obtain ⟨⟨a, ha, rfl⟩, _⟩ := H.ok w F e
    exact List.mem_map.mpr ⟨a, C.sub a ha, rfl⟩
  have := List.Nodup.length_le_of_subset H.nd this
  simpa using this
theorem Shelf.mk2 (H : Shelf S E) {F : Fl} (hS : ∀ w', w' ≠ w → ∀ G, IsLeaf S w' G → IsLeaf U w' G) (hU : ∀ a, a ∈ U → a ∈ S ∨ a.which = w) (hSU : ∀ a, a ∈ S → a ∈ U) (hw : ∃ a ∈ U, a.which = w) (L : IsLeaf U w F) {n : Nat} (g : Gd n F) : Shelf U (puM E w F) := by
  refine ⟨puM_nd H.nd, fun w' G hG => ?_, fun a ha => ?_⟩
  · rw [getM_put] at hG
    by_cases e : w' = w
    · rw [if_pos e] at hG
      cases hG
      subst e
      exact ⟨hw, L, n, g⟩
    · rw [if_neg e] at hG
      obtain ⟨⟨b, hb, hbw⟩, L', g'⟩ := H.ok w' G hG
      exact ⟨⟨b, hSU b hb, hbw⟩, hS w' e G L', g'⟩
  · rw [getM_put]
    by_cases e : a.which = w
    · exact ⟨F, by rw [if_pos e]⟩
    · rw [if_neg e]
      rcases hU a ha with h | h
      · exact H.all a h
      · exact absurd h e
end
end
end MM
namespace MM
open PySem L2 PySem.Spec PyProof.Rows
theorem uniq_nd {κ : Type} [DecidableEq κ] (xs : List κ) : (uniq xs).Nodup := by
  have gen : ∀ (ys acc : List κ), acc.Nodup → (ys.foldl addU acc).Nodup := by
    intro ys
    induction ys with
    | nil => intro acc h; exact h
    | cons y ys ih =>
      intro acc h
      refine ih _ ?_
      unfold addU
      split
      · exact h
      · rename_i hy
        rw [List.nodup_append]
        exact ⟨h, by simp, fun a ha b hb => by simp at hb; subst hb; exact fun e => hy (e ▸ ha)⟩
  exact gen xs [] List.nodup_nil
theorem uniq_mem {κ : Type} [DecidableEq κ] {k : κ} {xs : List κ} : k ∈ uniq xs ↔ k ∈ xs := by
  have gen : ∀ (ys acc : List κ), k ∈ ys.foldl addU acc ↔ k ∈ acc ∨ k ∈ ys := by
    intro ys
    induction ys with
    | nil => intro acc; simp
    | cons y ys ih =>
      intro acc
      rw [List.foldl_cons, ih, mem_addU, List.mem_cons, or_assoc]
  simpa [uniq] using gen xs []
def codeM (m : Int × Int) : Int := m.1 * 64 + m.2
/-- sorted(set(ms)), small numbers -/
def sortU (ms : List (Int × Int)) : List (Int × Int) := (uniq ms).mergeSort fun a b => decide (codeM a ≤ codeM b)
theorem sortU_pw (ms : List (Int × Int)) : (sortU ms).Pairwise fun a b => codeM a ≤ codeM b := by
  have := List.pairwise_mergeSort (le := fun a b : Int × Int => decide (codeM a ≤ codeM b)) (fun a b c h g => by simp at h g ⊢; omega) (fun a b => by simp; omega) (uniq ms)
  exact this.imp fun h => by simpa using h
theorem sortU_mem {ms : List (Int × Int)} {m : Int × Int} : m ∈ sortU ms ↔ m ∈ ms := by unfold sortU; rw [List.mem_mergeSort, uniq_mem]
theorem sortU_nd (ms : List (Int × Int)) : (sortU ms).Nodup := ((List.mergeSort_perm _ _).nodup_iff).mpr (uniq_nd ms)
def small (m : Int × Int) : Bool := decide (0 ≤ m.1 ∧ m.1 < 64 ∧ 0 ≤ m.2 ∧ m.2 < 64)
theorem sortU_eq {ms l : List (Int × Int)} (hs : ∀ m ∈ ms, small m = true) (nd : l.Nodup) (pw : l.Pairwise fun a b => codeM a ≤ codeM b) (hm : ∀ m, m ∈ l ↔ m ∈ ms) : l = sortU ms := by
  have pm : l.Perm (sortU ms) := (List.perm_ext_iff_of_nodup nd (sortU_nd ms)).mpr fun m => by rw [hm, sortU_mem]
  refine List.Perm.eq_of_pairwise (le := fun a b => codeM a ≤ codeM b) (fun a b ha hb h g => ?_) pw (sortU_pw ms) pm
  have h1 := hs a ((hm a).mp ha)
  have h2 := hs b (sortU_mem.mp hb)
  unfold small at h1 h2
  unfold codeM at h g
  simp at h1 h2
  exact Prod.ext (by omega) (by omega)
/-- marks, each a tuple of two ints -/
def pairsI : List Val → Option (List (Int × Int))
  | [] => some []
  | x :: xs => match x, pairsI xs with
    | .tup [.int a, .int b], some ms => some ((a, b) :: ms)
    | _, _ => none
section
variable {X : Cx} {G : Glob} {W : WX} {r : Ad} {H : Hp} {h : HM} {a : Expr} {me : EM} {p p2 q pos : Pos}
theorem pairsI_ok : ∀ {xs : List Val} {vs : List V} {ms : List (Int × Int)}, VRs G r H xs vs → pairsI xs = some ms →
    ∃ ks : List (Addr × List Int), vs = ks.map (fun p => V.ref p.1) ∧ ks.map (·.2) = ms.map (fun m => [m.1, m.2]) ∧ ∀ k ∈ ks, H k.1 = some (.tup (k.2.map V.int)) ∧ r.out k.1
  | [], _, _, .nil, e => by cases e; exact ⟨[], rfl, rfl, fun k hk => nomatch hk⟩
  | x :: xs, _, ms, .cons z zs, e => by
    unfold pairsI at e
    split at e
    · rename_i a b ms' e2
      cases e
      obtain ⟨ks, h1, h2, h3⟩ := pairsI_ok zs e2
      cases z with
      | @tup t us _ d o zz =>
        cases zz with
        | cons za zb =>
          cases za
          cases zb with
          | cons zb zn =>
            cases zb
            cases zn
            refine ⟨(t, [a, b]) :: ks, by rw [h1]; rfl, by rw [List.map_cons, h2]; rfl, fun k hk => ?_⟩
            rcases List.mem_cons.mp hk with rfl | hk
            · exact ⟨d, o⟩
            · exact h3 k hk
    · cases e
theorem vrs_pairs (ks : List (Addr × List Int)) (ms : List (Int × Int)) (e : ks.map (·.2) = ms.map (fun m => [m.1, m.2])) (hk : ∀ k ∈ ks, H k.1 = some (.tup (k.2.map V.int)) ∧ r.out k.1) : VRs G r H (ms.map fun m => .tup [.int m.1, .int m.2]) (ks.map fun p => V.ref p.1) := by
  induction ks generalizing ms with
  | nil =>
    cases ms with
    | nil => exact .nil
    | cons m ms => cases e
  | cons k ks ih =>
    cases ms with
    | nil => cases e
    | cons m ms =>
      simp only [List.map_cons, List.cons.injEq] at e
      obtain ⟨d, o⟩ := hk k List.mem_cons_self
      rw [e.1] at d
      exact .cons (.tup d o (.cons (.int _) (.cons (.int _) .nil))) (ih ms e.2 fun k' m' => hk k' (List.mem_cons_of_mem _ m'))
/-- sorted(set(xs)), xs a list of marks -/
def vSortSet (v : Val) (h : HM) : Res Val := match v with
  | .lst xs => (match pairsI xs with
    | some ms => if ms.length < 64 ∧ ms.all small = true then .ok (.lst ((sortU ms).map fun m => .tup [.int m.1, .int m.2])) h else .bad
    | none => .bad)
  | _ => .bad
def eSortSet (m : EM) : EM := fun l h => (m l h).bind vSortSet
theorem me_sortSet (hu : X.A.units + 200 < cLine) (hg : Gl X "sorted") (hm : X.mg "sorted" = none) (hm2 : X.mg "set" = none) (ha : ME X G W a me) (hc : X.calm = true := by rfl) (hg2 : Gl X "set" := by rfl)
    (na : starEach [a] X.env = (false, eval a X.env) :: starEach [] X.env := by rfl) (nb : starEach [(Expr.Call (.Name "set" p2) [a] [] q)] X.env = (false, eval (Expr.Call (.Name "set" p2) [a] [] q) X.env) :: starEach [] X.env := by rfl) :
    ME X G W (.Call (.Name "sorted" p) [.Call (.Name "set" p2) [a] [] q] [] pos) (eSortSet me) := by
  refine ⟨fun pins s σ H Q I ⟨r, h, l, qq, hl, pp⟩ => (pe_callB (cr_sortedT hc) hg hm PyProof.Rows.boot_sorted (pa_cons (pe_callTy (cr_setOfT hc (by omega)) hg2 hm2 PyProof.Rows.boot_set (pa_cons ha pa_nil na) (he := na)) pa_nil nb) (he := nb)).run pins s σ H Q I ⟨r, h, l, qq, hl, (Post.bind pp).imp fun x H1 ⟨r1, h1, w1, e1, q1, z1, p1⟩ => ?_⟩⟩
  cases z1 with
  | @lst b vs xs d o z =>
    unfold vSortSet at p1
    dsimp only at p1
    cases es : pairsI xs with
    | none => rw [es] at p1; exact p1.elim
    | some ms =>
      rw [es] at p1
      dsimp only at p1
      split at p1
      · rename_i hy
        obtain ⟨ks, rfl, hk, kk⟩ := pairsI_ok z es
        have sm : ∀ m ∈ ms, small m = true := fun m hm => List.all_eq_true.mp hy.2 m hm
        have kl : ks.length = ms.length := by have := congrArg List.length hk; simpa using this
        refine ⟨b, ks, rfl, .inl (.inl d), fun k hk => .inl (.inl (kk k hk).1), by omega, fun A L nA sub cov => ?_⟩
        have inL : ∀ k ∈ L, ∃ m ∈ ms, k.2 = [m.1, m.2] := fun k hk' => by
          have : k.2 ∈ ks.map (·.2) := List.mem_map.mpr ⟨k, sub k hk', rfl⟩
          rw [hk] at this
          obtain ⟨m, hm, e⟩ := List.mem_map.mp this
          exact ⟨m, hm, e.symm⟩
        have keep : ∀ {k : Addr × List Int} {O : HO}, k ∈ ks → upd H1 A O k.1 = some (.tup (k.2.map V.int)) := fun {k O} hk' => by
          rw [upd_ne (ne_of_none (kk k hk').1 nA)]; exact (kk k hk').1
        refine ⟨A, L, 2, 64, rfl, upd_same, fun k hk' => .inl (.inl (keep (sub k hk'))), by decide, fun k hk' => ?_, fun L' P pm nd few pw nP => ?_⟩
        · obtain ⟨m, hm, e⟩ := inL k hk'
          rw [e]
          have := sm m hm
          unfold small at this
          simp at this
          refine ⟨rfl, fun n hn => ?_⟩
          simp at hn
          rcases hn with rfl | rfl <;> omega
        · have inL' : ∀ k ∈ L', ∃ m ∈ ms, k.2 = [m.1, m.2] := fun k hk' => inL k (pm.mem_iff.mp hk')
          have eM : (L'.map fun k => ((k.2[0]?).getD 0, (k.2[1]?).getD 0)) = sortU ms := by
            refine sortU_eq sm ?_ ?_ fun m => ?_
            · rw [List.Nodup, List.pairwise_map]
              have nd' := List.pairwise_map.mp nd
              refine List.Pairwise.imp_of_mem (fun {x y} hx hy hne e => hne ?_) nd'
              obtain ⟨m1, _, e1⟩ := inL' x hx
              obtain ⟨m2, _, e2⟩ := inL' y hy
              rw [e1, e2] at e ⊢
              simp at e
              rw [e.1, e.2]
            · rw [List.pairwise_map]
              refine List.Pairwise.imp_of_mem (fun {x y} hx hy h => ?_) pw
              obtain ⟨m1, _, e1⟩ := inL' x hx
              obtain ⟨m2, _, e2⟩ := inL' y hy
              rw [e1, e2, code_pair, code_pair] at h
              rw [e1, e2]
              exact h
            · rw [List.mem_map]
              constructor
              · rintro ⟨k, hk', e⟩
                obtain ⟨m1, hm1, e1⟩ := inL' k hk'
                rw [e1] at e
                rw [← e]
                exact hm1
              · intro hm'
                have : [m.1, m.2] ∈ ks.map (·.2) := by rw [hk]; exact List.mem_map.mpr ⟨m, hm', rfl⟩
                obtain ⟨k, hk', e⟩ := List.mem_map.mp this
                have := cov k hk'
                obtain ⟨k2, hk2, e2⟩ := List.mem_map.mp this
                refine ⟨k2, pm.mem_iff.mpr hk2, ?_⟩
                rw [e2, e]
                rfl
          have e2 : L'.map (·.2) = (sortU ms).map (fun m => [m.1, m.2]) := by
            rw [← eM, List.map_map]
            refine List.map_congr_left fun k hk' => ?_
            obtain ⟨m1, _, e1⟩ := inL' k hk'
            show k.2 = [(k.2[0]?).getD 0, (k.2[1]?).getD 0]
            rw [e1]; rfl
          have x1 : Ext r1 H1 r1 (upd H1 A (SetTO X.prog X.w A L)) := ext_new q1 nA
          have q2 : Rel G r1 h1 (upd H1 A (SetTO X.prog X.w A L)) := q1.laid nA
          have x2 := ext_new (o := .lst (L'.map fun k => V.ref k.1)) q2 nP
          refine p1 r1 _ _ (x1.trans x2) (q2.laid nP) (.lst upd_same (q2.new nP) ?_)
          refine VRs.ext x2 (vrs_pairs L' (sortU ms) e2 fun k hk' => ⟨keep (sub k (pm.mem_iff.mp hk')), (kk k (sub k (pm.mem_iff.mp hk'))).2⟩)
      · exact p1.elim
  | _ => exact p1.elim
end
end MM
namespace MM
open PySem L2 PySem.W
noncomputable section
def m_law_left_f0 : SM := sSeq (sAsg (e2 vIx (e2 vIx (eVar 0) (eVar 4)) (eC (.int 1))) (gNm 8))
  (sSeq (sSub (eVar 5) (e2 vIx (eVar 8) (eC (.int 0))) (eBi bMax (aCons (e2 vIx (eVar 8) (eC (.int 1))) (aCons (eGet2 (eVar 5) (e2 vIx (eVar 8) (eC (.int 0))) (eC (.int 0))) (aNil)))))
  (sSeq (sAsg (eLc (iVal (eVar 3)) (gNm 10) (tOf (e2 vIn (eVar 4) (e2 vIx (e2 vIx (eVar 0) (eVar 10)) (eC (.int 4))))) (e2 vIx (e2 vIx (eVar 0) (eVar 10)) (eC (.int 2))) [10] frozen) (gNm 9))
  (sSeq (sIf (tAndM (tOf (e2 vEq (e2 vIx (e2 vIx (eVar 0) (eVar 4)) (eC (.int 2))) (eC (.str "rename")))) (tAndM (tOf (e2 vNotIn (eC (.str "rename")) (eVar 9))) (tOf (e2 vNotIn (eC (.str "drop")) (eVar 9))))) (sDrop (eBm .list mAppend (eVar 6) (aCons (eDisp mkTup (aCons (eVar 8) (aCons (e2 vIx (e2 vIx (eVar 0) (eVar 4)) (eC (.int 3))) (aNil)))) (aNil)))) (sNil))
  (sIf (tAndM (tOf (e2 vIn (e2 vIx (e2 vIx (eVar 0) (eVar 4)) (eC (.int 2))) (eDisp mkTup (aCons (eC (.str "make")) (aCons (eC (.str "write")) (aNil)))))) (tAndM (tOf (e2 vNotIn (eC (.str "write")) (eVar 9))) (tOf (e2 vNotIn (eC (.str "drop")) (eVar 9))))) (sDrop (eBm .list mAppend (eVar 7) (aCons (eDisp mkTup (aCons (eVar 8) (aCons (e2 vIx (e2 vIx (eVar 0) (eVar 4)) (eC (.int 3))) (aNil)))) (aNil)))) (sNil)))))
def m_law_left : FM := mF 13 (sSeq (sAsg (eLc (iVal (eBi bSorted (aCons (eVar 1) (aNil)))) (gNm 4) (tOf (e2 vEq (e2 vIx (e2 vIx (eVar 0) (eVar 4)) (eC (.int 0))) (eVar 2))) (eVar 4) [4] frozen) (gNm 3))
  (sSeq (sAsg (eDictK) (gNm 5))
  (sSeq (sAsg (eDisp mkRef (aNil)) (gNm 6))
  (sSeq (sAsg (eDisp mkRef (aNil)) (gNm 7))
  (sSeq (sFor (iVal (eVar 3)) (gNm 4) m_law_left_f0)
  (sSeq (sAsg (eBi bTuple (aCons (eLc (iVal (eBi bSorted (aCons (eVar 5) (aNil)))) (gNm 12) (tYesM) (eDisp mkTup (aCons (eVar 12) (aCons (e2 vIx (eVar 5) (eVar 12)) (aNil)))) [12] frozen) (aNil))) (gNm 11))
  (sRet (eDisp mkTup (aCons (eVar 2) (aCons (e2 vIx (e2 vIx (eVar 0) (e2 vIx (eVar 3) (eC (.int 0)))) (eC (.int 5))) (aCons (eVar 11) (aCons (eBi bTuple (aCons (eBi bSorted (aCons (eVar 6) (aNil))) (aNil))) (aCons (eBi bTuple (aCons (eBi bSorted (aCons (eVar 7) (aNil))) (aNil))) (aNil))))))))))))))
def m_law_files : FM := mF 6 (sSeq (sAsg (e2 vIx (eVar 0) (eC (.int 3))) (gNm 2))
  (sSeq (sAsg (e2 vIx (e2 vIx (eVar 0) (eC (.int 4))) (eVar 1)) (gNm 3))
  (sRet (eLc (iVal (eSortSet (eLock (eVar 3) (eLc (iKeysA (eVar 3)) (gNm 5) (tYesM) (e2 vIx (e2 vIx (eVar 2) (eVar 5)) (eC (.int 0))) [5] frozen)))) (gNm 4) (tYesM) (eCall m_law_left (aCons (eVar 2) (aCons (eVar 3) (aCons (eVar 4) (aNil))))) [4] frozen))))
def kindS : Kind → Str
  | .make => Str.ofString "make"
  | .write => Str.ofString "write"
  | .rename => Str.ofString "rename"
  | .drop => Str.ofString "drop"
theorem kindS_ok (k : Kind) : PyData.strOk (kindS k) = true := by cases k <;> decide +kernel
theorem kindS_inj {j k : Kind} (h : kindS j = kindS k) : j = k := by
  revert h
  cases j <;> cases k <;> first | (intro _; rfl) | (intro h; exact absurd h (by decide +kernel))
def idxI (a : Act) : Int := (a.idx : Int)
def pastV (ks : List Nat) : List Val := ks.map fun i : Nat => .int (i : Int)
def eAct (a : Act) : Val := .tup [eM a.which, eM a.mark, .str (kindS a.kind), .str a.what, .lst (pastV a.past), .str a.first]
def kvB (S : List Act) : List (Key × Val) := S.map fun a => (.inl (idxI a), .bl true)
theorem encI (i : Int) : (Enc.enc i : Val) = .int i := rfl
theorem encStr (s : Str) : (Enc.enc s : Val) = .str s := rfl
theorem kvB_keys {S : List Act} : (kvB S).map (fun p => keyV p.1) = (S.map idxI).map .int := by
  simp only [kvB, List.map_map]
  rfl
section
variable {A S : List Act} {V : List Val} {w : Mk} {F : Fl} {h : HM} {na nb : Nat}
theorem sorted_B (hB : h[nb]? = some (.dK (kvB S))) (hl : S.length ≤ 1000000) : bSorted [.ref nb] h = .ok (.lst ((srt (S.map idxI)).map .int)) h := by
  have hk : (S.map idxI).length ≤ 1000000 := by simpa using hl
  have so := canSort (sortable_int (S.map idxI)) hk (by decide)
  have hd := datFs_map (S.map idxI)
  have hs := sortV_enc (S.map idxI)
  simp only [show (Enc.enc : Int → Val) = Val.int from rfl] at hd hs
  simp only [bSorted, sortItems, hB, kvB_keys, hd, if_pos so, hs]
theorem acts_of : ∀ (L : List Int), (∀ j ∈ L, j ∈ S.map idxI) → ∃ SS : List Act, SS.map idxI = L ∧ ∀ a ∈ SS, a ∈ S
  | [], _ => ⟨[], rfl, fun a ha => (by cases ha)⟩
  | j :: L, hj => by
    obtain ⟨SS, e, hs⟩ := acts_of L fun i hi => hj i (List.mem_cons_of_mem _ hi)
    obtain ⟨a, ha, ea⟩ := List.mem_map.mp (hj j List.mem_cons_self)
    refine ⟨a :: SS, by rw [List.map_cons, e, ea], fun b hb => ?_⟩
    rcases List.mem_cons.mp hb with rfl | hb
    · exact ha
    · exact hs b hb
/-- the book, by the acts' places -/
theorem Closed.sorted (O : OkA A) (C : Closed A S) : ∃ SS : List Act, SS.map idxI = srt (S.map idxI) ∧ (∀ a, a ∈ SS ↔ a ∈ S) ∧ SS.Nodup ∧ SS.length = S.length := by
  obtain ⟨SS, e, hs⟩ := acts_of (S := S) (srt (S.map idxI)) fun j hj => srt_mem.mp hj
  have nd : (SS.map idxI).Nodup := by
    rw [e]
    refine srt_nd ?_
    have := C.nd
    rw [List.Nodup, List.pairwise_map] at this ⊢
    exact this.imp fun h1 h2 => h1 (by unfold idxI at h2; omega)
  refine ⟨SS, e, fun a => ⟨hs a, fun ha => ?_⟩, ?_, ?_⟩
  · have : idxI a ∈ SS.map idxI := by rw [e]; exact srt_mem.mpr (List.mem_map_of_mem ha)
    obtain ⟨b, hb, eb⟩ := List.mem_map.mp this
    have : b = a := O.inj (C.sub b (hs b hb)) (C.sub a ha) (by unfold idxI at eb; omega)
    rw [← this]; exact hb
  · rw [List.Nodup, List.pairwise_map] at nd
    exact nd.imp fun h1 h2 => h1 (by rw [h2])
  · have := congrArg List.length e
    rw [srt_len] at this
    simpa using this
theorem ix_act (hV : ∀ a ∈ A, V[a.idx]? = some (eAct a)) (hA : h[na]? = some (.lst V)) {a : Act} (ha : a ∈ A) : vIx (.ref na) (.int (idxI a)) h = .ok (eAct a) h := by
  have h0 : (0 : Int) ≤ idxI a := by unfold idxI; omega
  simp only [vIx, hA, atI_nat h0]
  have : (idxI a).toNat = a.idx := by unfold idxI; omega
  rw [this, hV a ha]
  rfl
theorem eq_mk {a b : Mk} {h : HM} : vEq (eM a) (eM b) h = .ok (.bl (decide (a = b))) h := eqE (α := Mk) ⟨trivial, trivial⟩ ⟨trivial, trivial⟩
theorem eq_str {a b : Str} {h : HM} (ha : PyData.strOk a = true) (hb : PyData.strOk b = true) : vEq (.str a) (.str b) h = .ok (.bl (decide (a = b))) h := eqE (α := Str) ha hb
theorem in_past {a : Act} {ks : List Nat} {h : HM} : vIn (.int (idxI a)) (.lst (pastV ks)) h = .ok (.bl (decide (a.idx ∈ ks))) h := by
  have e : pastV ks = (ks.map fun i : Nat => (i : Int)).map Enc.enc := by simp [pastV]; intro i _; rfl
  rw [e, ← encI, vIn_lst (α := Int) trivial (fun _ _ => trivial)]
  congr 2
  rw [decide_eq_decide]
  unfold idxI
  simp only [List.mem_map]
  constructor
  · rintro ⟨i, hi, e⟩
    have : i = a.idx := by omega
    rw [← this]; exact hi
  · intro h; exact ⟨_, h, rfl⟩
/-- what an act's word stands by, among the acts M -/
def stB (M : List Act) (on off : Kind → Bool) (a : Act) : Bool := on a.kind && M.all fun b => !(decide (a.idx ∈ b.past) && off b.kind)
def beV (M : List Act) (a : Act) : List Val := (M.filter fun b => decide (a.idx ∈ b.past)).map fun b => .str (kindS b.kind)
theorem notin_be {M : List Act} {a : Act} {k : Kind} {h : HM} : vNotIn (.str (kindS k)) (.lst (beV M a)) h = .ok (.bl (M.all fun b => !(decide (a.idx ∈ b.past) && decide (b.kind = k)))) h := by
  have e : beV M a = ((M.filter fun b => decide (a.idx ∈ b.past)).map fun b => kindS b.kind).map Enc.enc := by
    simp only [beV, List.map_map]; rfl
  rw [e, ← encStr, vNotIn_lst (α := Str) (kindS_ok k) (fun x hx => by obtain ⟨b, _, rfl⟩ := List.mem_map.mp hx; exact kindS_ok _)]
  congr 2
  rw [Bool.eq_iff_iff]
  simp only [Bool.not_eq_true', decide_eq_false_iff_not, List.mem_map, List.mem_filter, decide_eq_true_eq, not_exists, not_and, List.all_eq_true, Bool.and_eq_false_imp]
  constructor
  · intro h b hb h1 h2
    exact h b ⟨hb, h1⟩ (by rw [h2])
  · intro h b hb h2
    exact h b hb.1 hb.2 (kindS_inj h2)
theorem in_mw {k : Kind} {h : HM} : vIn (.str (kindS k)) (.tup [.str (kindS .make), .str (kindS .write)]) h = .ok (.bl k.tx) h := by
  have := vIn_tup (α := Str) (a := kindS k) (xs := [kindS .make, kindS .write]) (v := .tup [.str (kindS .make), .str (kindS .write)]) (h := h) rfl (kindS_ok k) (fun x hx => by simp at hx; rcases hx with rfl | rfl <;> exact kindS_ok _)
  rw [encStr] at this
  rw [this]
  congr 2
  cases k <;> decide +kernel
theorem stB_nm {M : List Act} {a : Act} : stB M Kind.nm Kind.offN a = (decide (a.kind = .rename) && ((M.all fun b => !(decide (a.idx ∈ b.past) && decide (b.kind = .rename))) && (M.all fun b => !(decide (a.idx ∈ b.past) && decide (b.kind = .drop))))) := by
  rw [Bool.eq_iff_iff]
  simp only [stB, Bool.and_eq_true, List.all_eq_true, Bool.not_eq_true', Bool.and_eq_false_imp, decide_eq_true_eq, decide_eq_false_iff_not]
  have e1 : ∀ k : Kind, k.nm = true ↔ k = .rename := fun k => by cases k <;> simp [Kind.nm]
  have e2 : ∀ k : Kind, k.offN = false ↔ (k ≠ .rename ∧ k ≠ .drop) := fun k => by cases k <;> simp [Kind.offN]
  simp only [e1, e2]
  constructor
  · rintro ⟨a, b⟩; exact ⟨a, fun c hc hp => (b c hc hp).1, fun c hc hp => (b c hc hp).2⟩
  · rintro ⟨a, b, d⟩; exact ⟨a, fun c hc hp => ⟨b c hc hp, d c hc hp⟩⟩
theorem stB_tx {M : List Act} {a : Act} : stB M Kind.tx Kind.offT a = (a.kind.tx && ((M.all fun b => !(decide (a.idx ∈ b.past) && decide (b.kind = .write))) && (M.all fun b => !(decide (a.idx ∈ b.past) && decide (b.kind = .drop))))) := by
  rw [Bool.eq_iff_iff]
  simp only [stB, Bool.and_eq_true, List.all_eq_true, Bool.not_eq_true', Bool.and_eq_false_imp, decide_eq_true_eq, decide_eq_false_iff_not]
  have e2 : ∀ k : Kind, k.offT = false ↔ (k ≠ .write ∧ k ≠ .drop) := fun k => by cases k <;> simp [Kind.offT]
  simp only [e2]
  constructor
  · rintro ⟨a, b⟩; exact ⟨a, fun c hc hp => (b c hc hp).1, fun c hc hp => (b c hc hp).2⟩
  · rintro ⟨a, b, d⟩; exact ⟨a, fun c hc hp => ⟨b c hc hp, d c hc hp⟩⟩
theorem left_f0 {ks : List Mk} {xs ys : List Wd} {M : List Act} {a : Act} {a8 a9 a10 a11 a12 : Option Val} (hV : ∀ a ∈ A, V[a.idx]? = some (eAct a)) (hA : h[na]? = some (.lst V)) (ha : a ∈ A) (hM : ∀ b ∈ M, b ∈ A) (lM : M.length ≤ 1000) (lk : ks.length ≤ 1000) (lx : xs.length ≤ 1000) (ly : ys.length ≤ 1000) :
    ∃ b8 b9, m_law_left_f0 [some (.ref na), some (.ref nb), some (eM w), some (.lst (M.map fun b => .int (idxI b))), some (.int (idxI a)), some (.ref h.length), some (.ref (h.length + 1)), some (.ref (h.length + 2)), a8, a9, a10, a11, a12] (h ++ [.dK (kvI ks), .lst (xs.map eW), .lst (ys.map eW)]) =
      .nx [some (.ref na), some (.ref nb), some (eM w), some (.lst (M.map fun b => .int (idxI b))), some (.int (idxI a)), some (.ref h.length), some (.ref (h.length + 1)), some (.ref (h.length + 2)), b8, b9, a10, a11, a12] (h ++ [.dK (kvI (upd1 ks a.mark)), .lst ((xs ++ if stB M Kind.nm Kind.offN a = true then [(a.mark, a.what)] else []).map eW), .lst ((ys ++ if stB M Kind.tx Kind.offT a = true then [(a.mark, a.what)] else []).map eW)]) := by
  have nalt : na < h.length := (List.getElem?_eq_some_iff.mp hA).1
  have ixa : ∀ (g : HM) {b : Act}, b ∈ A → vIx (.ref na) (.int (idxI b)) (h ++ g) = .ok (eAct b) (h ++ g) := fun g b hb => ix_act hV (by rw [List.getElem?_append_left nalt]; exact hA) hb
  have x0 : ∀ (b : Act) h, vIx (eAct b) (.int 0) h = .ok (eM b.which) h := fun _ _ => rfl
  have x1 : ∀ (b : Act) h, vIx (eAct b) (.int 1) h = .ok (eM b.mark) h := fun _ _ => rfl
  have x2 : ∀ (b : Act) h, vIx (eAct b) (.int 2) h = .ok (.str (kindS b.kind)) h := fun _ _ => rfl
  have x3 : ∀ (b : Act) h, vIx (eAct b) (.int 3) h = .ok (.str b.what) h := fun _ _ => rfl
  have x4 : ∀ (b : Act) h, vIx (eAct b) (.int 4) h = .ok (.lst (pastV b.past)) h := fun _ _ => rfl
  have m0 : ∀ (m : Mk) h, vIx (eM m) (.int 0) h = .ok (.int m.1) h := fun _ _ => rfl
  have m1 : ∀ (m : Mk) h, vIx (eM m) (.int 1) h = .ok (.int m.2) h := fun _ _ => rfl
  have g := getK_kvI (ks := ks) (j := a.mark.1)
  have pu : putV (kvI ks) (.inl a.mark.1) (.int (max a.mark.2 ((look ks a.mark.1).getD 0))) = kvI (upd1 ks a.mark) := put_kvI
  have si : ∀ c X Y, setI (.ref (List.length h)) (.int a.mark.1) (.int c) (h ++ [.dK (kvI ks), X, Y]) = some (h ++ [.dK (putV (kvI ks) (.inl a.mark.1) (.int c)), X, Y]) := fun c X Y => by
    have : (kvI ks).length < sizeLine := by rw [sizeLine_eq]; simp [kvI]; omega
    simp [setI, keyOf, this]
  have st1 : ∀ l X Y, (sSub (eVar 5) (e2 vIx (eVar 8) (eC (.int 0))) (eBi bMax (aCons (e2 vIx (eVar 8) (eC (.int 1))) (aCons (eGet2 (eVar 5) (e2 vIx (eVar 8) (eC (.int 0))) (eC (.int 0))) (aNil))))) (some (.ref na) :: some (.ref nb) :: some (eM w) :: some (.lst (M.map fun b => .int (idxI b))) :: some (.int (idxI a)) :: some (.ref h.length) :: some (.ref (h.length + 1)) :: some (.ref (h.length + 2)) :: some (eM a.mark) :: l) (h ++ [.dK (kvI ks), X, Y]) = .nx (some (.ref na) :: some (.ref nb) :: some (eM w) :: some (.lst (M.map fun b => .int (idxI b))) :: some (.int (idxI a)) :: some (.ref h.length) :: some (.ref (h.length + 1)) :: some (.ref (h.length + 2)) :: some (eM a.mark) :: l) (h ++ [.dK (kvI (upd1 ks a.mark)), X, Y]) := fun l X Y => by
    cases el : look ks a.mark.1 with
    | none =>
      rw [el] at g pu
      simp [m0, m1, isDict, dGet, keyOf, g, maxI]
      simp only [si]
      exact congrArg (fun z => SRes.nx _ (h ++ [.dK z, X, Y])) pu
    | some d =>
      rw [el] at g pu
      simp [m0, m1, isDict, dGet, keyOf, g, maxI]
      simp only [si]
      exact congrArg (fun z => SRes.nx _ (h ++ [.dK z, X, Y])) pu
  have be : ∀ (g : HM) (a9 : Option Val), lcL (srcItems (M.map fun b => Val.int (idxI b))) (gNm 10) (tOf (e2 vIn (eVar 4) (e2 vIx (e2 vIx (eVar 0) (eVar 10)) (eC (.int 4))))) (e2 vIx (e2 vIx (eVar 0) (eVar 10)) (eC (.int 2))) [some (.ref na), some (.ref nb), some (eM w), some (.lst (M.map fun b => .int (idxI b))), some (.int (idxI a)), some (.ref h.length), some (.ref (h.length + 1)), some (.ref (h.length + 2)), some (eM a.mark), a9, none, a11, a12] (srcItems (M.map fun b => Val.int (idxI b))).len 0 (h ++ g) [] = .ok (beV M a) (h ++ g) := fun g a9 =>
    lc_filterM (fun b : Act => decide (a.idx ∈ b.past)) (fun b : Act => .str (kindS b.kind)) (fun b hb => ⟨_, rfl, by simp [ixa g (hM b hb), x4, in_past], fun _ => by simp [ixa g (hM b hb), x2]⟩) (by rw [sizeLine_eq]; omega)
  have ek : ∀ k h, vEq (.str (kindS a.kind)) (.str (kindS k)) h = .ok (.bl (decide (a.kind = k))) h := fun k h => by
    rw [eq_str (kindS_ok _) (kindS_ok _)]
    congr 2
    rw [decide_eq_decide]
    exact ⟨kindS_inj, fun e => by rw [e]⟩
  have s1 : Val.str (Str.ofString "rename") = .str (kindS .rename) := rfl
  have s2 : Val.str (Str.ofString "drop") = .str (kindS .drop) := rfl
  have s3 : Val.str (Str.ofString "make") = .str (kindS .make) := rfl
  have s4 : Val.str (Str.ofString "write") = .str (kindS .write) := rfl
  have kd1 : ∀ X Y, isKd .list (.ref (h.length + 1)) (h ++ [X, .lst (xs.map eW), Y]) = true := fun X Y => by simp [isKd, seqL]
  have kd2 : ∀ X Y, isKd .list (.ref (h.length + 2)) (h ++ [X, Y, .lst (ys.map eW)]) = true := fun X Y => by simp [isKd, seqL]
  have ap1 : ∀ X Y v, mAppend (.ref (h.length + 1)) [v] (h ++ [X, .lst (xs.map eW), Y]) = .ok .non (h ++ [X, .lst (xs.map eW ++ [v]), Y]) := fun X Y v => by
    have : (xs.map eW).length < sizeLine := by rw [sizeLine_eq]; simp; omega
    simp only [mAppend, get_at, List.getElem?_cons_succ, List.getElem?_cons_zero, if_pos this, set_at, List.set_cons_succ, List.set_cons_zero]
  have ap2 : ∀ X Y v, mAppend (.ref (h.length + 2)) [v] (h ++ [X, Y, .lst (ys.map eW)]) = .ok .non (h ++ [X, Y, .lst (ys.map eW ++ [v])]) := fun X Y v => by
    have : (ys.map eW).length < sizeLine := by rw [sizeLine_eq]; simp; omega
    simp only [mAppend, get_at, List.getElem?_cons_succ, List.getElem?_cons_zero, if_pos this, set_at, List.set_cons_succ, List.set_cons_zero]
  have c1 : ∀ g, (tAndM (tOf (e2 vEq (e2 vIx (e2 vIx (eVar 0) (eVar 4)) (eC (.int 2))) (eC (.str (kindS .rename))))) (tAndM (tOf (e2 vNotIn (eC (.str (kindS .rename))) (eVar 9))) (tOf (e2 vNotIn (eC (.str (kindS .drop))) (eVar 9))))) [some (.ref na), some (.ref nb), some (eM w), some (.lst (M.map fun b => .int (idxI b))), some (.int (idxI a)), some (.ref h.length), some (.ref (h.length + 1)), some (.ref (h.length + 2)), some (eM a.mark), some (.lst (beV M a)), a10, a11, a12] (h ++ g) = .ok (stB M Kind.nm Kind.offN a) (h ++ g) := fun g => by
    rw [stB_nm]
    simp only [ev_tAnd, ev_tOf, ev_e2, ev_VarS, ev_Var0, ev_C, Res.bind_ok, ixa _ ha, x2, ek, notin_be, ev_toB]
    generalize decide (a.kind = Kind.rename) = p1
    generalize (M.all fun b => !(decide (a.idx ∈ b.past) && decide (b.kind = Kind.rename))) = p2
    generalize (M.all fun b => !(decide (a.idx ∈ b.past) && decide (b.kind = Kind.drop))) = p3
    cases p1 <;> cases p2 <;> cases p3 <;> rfl
  have c2 : ∀ g, (tAndM (tOf (e2 vIn (e2 vIx (e2 vIx (eVar 0) (eVar 4)) (eC (.int 2))) (eDisp mkTup (aCons (eC (.str (kindS .make))) (aCons (eC (.str (kindS .write))) (aNil)))))) (tAndM (tOf (e2 vNotIn (eC (.str (kindS .write))) (eVar 9))) (tOf (e2 vNotIn (eC (.str (kindS .drop))) (eVar 9))))) [some (.ref na), some (.ref nb), some (eM w), some (.lst (M.map fun b => .int (idxI b))), some (.int (idxI a)), some (.ref h.length), some (.ref (h.length + 1)), some (.ref (h.length + 2)), some (eM a.mark), some (.lst (beV M a)), a10, a11, a12] (h ++ g) = .ok (stB M Kind.tx Kind.offT a) (h ++ g) := fun g => by
    rw [stB_tx]
    have mt : ∀ h, mkTup [.str (kindS .make), .str (kindS .write)] h = .ok (.tup [.str (kindS .make), .str (kindS .write)]) h := fun h => ev_mkTup (by simp)
    simp only [ev_tAnd, ev_tOf, ev_e2, ev_VarS, ev_Var0, ev_C, Res.bind_ok, ixa _ ha, x2, notin_be, ev_toB, ev_eDisp, ev_aCons, ev_aNil, mt, in_mw]
    generalize a.kind.tx = p1
    generalize (M.all fun b => !(decide (a.idx ∈ b.past) && decide (b.kind = Kind.write))) = p2
    generalize (M.all fun b => !(decide (a.idx ∈ b.past) && decide (b.kind = Kind.drop))) = p3
    cases p1 <;> cases p2 <;> cases p3 <;> rfl
  have mt2 : ∀ h, mkTup [eM a.mark, .str a.what] h = .ok (eW (a.mark, a.what)) h := fun h => ev_mkTup (by simp)
  have s5 : ∀ X Y, sIf (tAndM (tOf (e2 vEq (e2 vIx (e2 vIx (eVar 0) (eVar 4)) (eC (.int 2))) (eC (.str (kindS .rename))))) (tAndM (tOf (e2 vNotIn (eC (.str (kindS .rename))) (eVar 9))) (tOf (e2 vNotIn (eC (.str (kindS .drop))) (eVar 9))))) (sDrop (eBm .list mAppend (eVar 6) (aCons (eDisp mkTup (aCons (eVar 8) (aCons (e2 vIx (e2 vIx (eVar 0) (eVar 4)) (eC (.int 3))) (aNil)))) (aNil)))) (sNil) [some (.ref na), some (.ref nb), some (eM w), some (.lst (M.map fun b => .int (idxI b))), some (.int (idxI a)), some (.ref h.length), some (.ref (h.length + 1)), some (.ref (h.length + 2)), some (eM a.mark), some (.lst (beV M a)), a10, a11, a12] (h ++ [X, .lst (xs.map eW), Y]) = .nx [some (.ref na), some (.ref nb), some (eM w), some (.lst (M.map fun b => .int (idxI b))), some (.int (idxI a)), some (.ref h.length), some (.ref (h.length + 1)), some (.ref (h.length + 2)), some (eM a.mark), some (.lst (beV M a)), a10, a11, a12] (h ++ [X, .lst ((xs ++ if stB M Kind.nm Kind.offN a = true then [(a.mark, a.what)] else []).map eW), Y]) := fun X Y => by
    rw [ev_sIf, c1, Res.thn_ok]
    generalize stB M Kind.nm Kind.offN a = b1 at *
    cases b1
    · simp only [ev_sNil, ev_sDrop, ev_eBm, ev_e2, ev_VarS, ev_Var0, ev_C, Res.bind_ok, ev_aCons, ev_aNil, ev_eDisp, ixa _ ha, x3, mt2, Res.thn_ok, if_true, if_false, Bool.false_eq_true, List.append_nil, List.map_append, List.map_cons, List.map_nil]
    · simp only [ev_sNil, ev_sDrop, ev_eBm, ev_e2, ev_VarS, ev_Var0, ev_C, Res.bind_ok, ev_aCons, ev_aNil, ev_eDisp, ixa _ ha, x3, mt2, Res.thn_ok, if_true, if_false, Bool.false_eq_true, List.append_nil, List.map_append, List.map_cons, List.map_nil, kd1, ap1]
  have s6 : ∀ X Y, sIf (tAndM (tOf (e2 vIn (e2 vIx (e2 vIx (eVar 0) (eVar 4)) (eC (.int 2))) (eDisp mkTup (aCons (eC (.str (kindS .make))) (aCons (eC (.str (kindS .write))) (aNil)))))) (tAndM (tOf (e2 vNotIn (eC (.str (kindS .write))) (eVar 9))) (tOf (e2 vNotIn (eC (.str (kindS .drop))) (eVar 9))))) (sDrop (eBm .list mAppend (eVar 7) (aCons (eDisp mkTup (aCons (eVar 8) (aCons (e2 vIx (e2 vIx (eVar 0) (eVar 4)) (eC (.int 3))) (aNil)))) (aNil)))) (sNil) [some (.ref na), some (.ref nb), some (eM w), some (.lst (M.map fun b => .int (idxI b))), some (.int (idxI a)), some (.ref h.length), some (.ref (h.length + 1)), some (.ref (h.length + 2)), some (eM a.mark), some (.lst (beV M a)), a10, a11, a12] (h ++ [X, Y, .lst (ys.map eW)]) = .nx [some (.ref na), some (.ref nb), some (eM w), some (.lst (M.map fun b => .int (idxI b))), some (.int (idxI a)), some (.ref h.length), some (.ref (h.length + 1)), some (.ref (h.length + 2)), some (eM a.mark), some (.lst (beV M a)), a10, a11, a12] (h ++ [X, Y, .lst ((ys ++ if stB M Kind.tx Kind.offT a = true then [(a.mark, a.what)] else []).map eW)]) := fun X Y => by
    rw [ev_sIf, c2, Res.thn_ok]
    generalize stB M Kind.tx Kind.offT a = b1 at *
    cases b1
    · simp only [ev_sNil, ev_sDrop, ev_eBm, ev_e2, ev_VarS, ev_Var0, ev_C, Res.bind_ok, ev_aCons, ev_aNil, ev_eDisp, ixa _ ha, x3, mt2, Res.thn_ok, if_true, if_false, Bool.false_eq_true, List.append_nil, List.map_append, List.map_cons, List.map_nil]
    · simp only [ev_sNil, ev_sDrop, ev_eBm, ev_e2, ev_VarS, ev_Var0, ev_C, Res.bind_ok, ev_aCons, ev_aNil, ev_eDisp, ixa _ ha, x3, mt2, Res.thn_ok, if_true, if_false, Bool.false_eq_true, List.append_nil, List.map_append, List.map_cons, List.map_nil, kd2, ap2]
  refine ⟨some (eM a.mark), some (.lst (beV M a)), ?_⟩
  unfold m_law_left_f0
  rw [s1, s2, s3, s4]
  simp only [ev_sSeq, ev_sAsg, ev_e2, ev_VarS, ev_Var0, Res.bind_ok, ev_C, ixa _ ha, x1, Res.thn_ok, ev_gNmS, ev_gNm0, Option.map_some, st1]
  simp only [ev_eLc, ev_iVal, ev_VarS, ev_Var0, Res.bind_ok, srcOf, wipeL, List.foldl_cons, List.foldl_nil, List.set_cons_succ, List.set_cons_zero, be, ev_frozen, Res.thn_ok, ev_gNmS, ev_gNm0, Option.map_some]
  rw [s5]
  exact s6 _ _
theorem Closed.nodup (C : Closed A S) : S.Nodup := by
  have := C.nd
  rw [List.Nodup, List.pairwise_map] at this
  exact this.imp fun h1 h2 => h1 (by rw [h2])
theorem Closed.len (_ : OkA A) (C : Closed A S) : S.length ≤ A.length := List.Nodup.length_le_of_subset C.nodup fun a ha => C.sub a ha
theorem sorted_ref {α : Type} [DecidableEq α] [Enc α] {xs : List α} {n : Nat} (hn : h[n]? = some (.lst (xs.map Enc.enc))) (hs : Sortable (xs.map (Datum.toD : α → PyData))) (hl : xs.length ≤ 1000000) (hd : Datum.depth α ≤ 50 := by decide) : bSorted [.ref n] h = .ok (.lst ((srt xs).map Enc.enc)) h := by
  simp only [bSorted, sortItems, hn, datFs_map, if_pos (canSort hs hl hd), sortV_enc]
theorem sorted_kvI {ks : List Mk} {n : Nat} (hn : h[n]? = some (.dK (kvI ks))) (hl : ks.length ≤ 1000000) : bSorted [.ref n] h = .ok (.lst ((srt (ks.map (·.1))).map .int)) h := by
  have hk : (ks.map (·.1)).length ≤ 1000000 := by simpa using hl
  have so := canSort (sortable_int (ks.map (·.1))) hk (by decide)
  have hd := datFs_map (ks.map (·.1))
  have hs := sortV_enc (ks.map (·.1))
  have e : (kvI ks).map (fun p => keyV p.1) = (ks.map (·.1)).map .int := by rw [keys_kvI, List.map_map]; rfl
  simp only [show (Enc.enc : Int → Val) = Val.int from rfl] at hd hs
  simp only [bSorted, sortItems, hn, e, hd, if_pos so, hs]
theorem srt_houses {ks : List Mk} (nd : (ks.map (·.1)).Nodup) : srt (ks.map (·.1)) = (srt ks).map (·.1) := by
  have h1 := houses_pw (srt_srt ks) (keys_srt nd)
  refine sd_eq (srt_srt _) (sd_of_pw h1) (srt_nd nd) (keys_srt nd) fun a => ?_
  rw [srt_mem]
  simp only [List.mem_map, srt_mem]
def wdsOf (M : List Act) (on off : Kind → Bool) (L : List Act) : List Wd := (L.filter (stB M on off)).map fun a => (a.mark, a.what)
theorem wdsOf_stands {M : List Act} (hM : ∀ a, a ∈ M ↔ a ∈ S ∧ a.which = w) {on off : Kind → Bool} (p : Wd) : p ∈ wdsOf M on off M ↔ Stands S w on off p := by
  unfold wdsOf Stands stB
  simp only [List.mem_map, List.mem_filter, Bool.and_eq_true, List.all_eq_true, Bool.not_eq_true', Bool.and_eq_false_imp, decide_eq_true_eq]
  constructor
  · rintro ⟨a, ⟨ha, h1, h2⟩, rfl⟩
    exact ⟨a, ((hM a).mp ha).1, ((hM a).mp ha).2, h1, rfl, fun b hb hbw => h2 b ((hM b).mpr ⟨hb, hbw⟩)⟩
  · rintro ⟨a, ha, hw, h1, rfl, h2⟩
    exact ⟨a, ⟨(hM a).mpr ⟨ha, hw⟩, h1, fun b hb => h2 b ((hM b).mp hb).1 ((hM b).mp hb).2⟩, rfl⟩
theorem wdsOf_nd {M L : List Act} (O : OkA A) (hL : ∀ a ∈ L, a ∈ A) (nd : L.Nodup) {on off : Kind → Bool} : ((wdsOf M on off L).map (·.1)).Nodup := by
  unfold wdsOf
  rw [List.map_map, List.Nodup, List.pairwise_map]
  refine (nd.filter _).imp_of_mem fun {a b} ha hb hne e => hne ?_
  exact O.mki a (hL a (List.mem_filter.mp ha).1) b (hL b (List.mem_filter.mp hb).1) e
theorem wdsOf_snoc {M L : List Act} {on off : Kind → Bool} {a : Act} : wdsOf M on off (L ++ [a]) = wdsOf M on off L ++ if stB M on off a = true then [(a.mark, a.what)] else [] := by
  unfold wdsOf
  rw [List.filter_append, List.map_append]
  cases h : stB M on off a <;> simp [h]
theorem wdsOf_len {M L : List Act} {on off : Kind → Bool} : (wdsOf M on off L).length ≤ L.length := by
  unfold wdsOf
  rw [List.length_map]
  exact List.length_filter_le _ _
theorem within_marks {M : List Act} {p : Mk} : within p (M.map (·.mark)) = true ↔ ∃ a ∈ M, a.mark.1 = p.1 ∧ p.2 ≤ a.mark.2 := by
  unfold within
  rw [List.any_map, List.any_eq_true]
  simp only [Function.comp, Bool.and_eq_true, decide_eq_true_eq, beq_iff_eq]
theorem at_left {n : Nat} (O : OkA A) (hV : ∀ a ∈ A, V[a.idx]? = some (eAct a)) (C : Closed A S) (hA : h[na]? = some (.lst V)) (hB : h[nb]? = some (.dK (kvB S))) (lA : A.length ≤ 900) (L : IsLeaf S w F) (g : Gd n F) (hw : ∃ a ∈ S, a.which = w) :
    ∃ g', m_law_left [.ref na, .ref nb, eM w] h = .ok (eB (F, false)) (h ++ g') := by
  obtain ⟨SS, z1, z2, z3, z4⟩ := C.sorted O
  have lS := C.len O
  have so := sorted_B hB (by omega)
  rw [← z1, List.map_map] at so
  obtain ⟨M, hMe⟩ : ∃ M, M = SS.filter fun a => decide (a.which = w) := ⟨_, rfl⟩
  have hM : ∀ a, a ∈ M ↔ a ∈ S ∧ a.which = w := fun a => by rw [hMe, List.mem_filter, decide_eq_true_eq, z2]
  have hMA : ∀ a ∈ M, a ∈ A := fun a ha => C.sub a ((hM a).mp ha).1
  have ndM : M.Nodup := by rw [hMe]; exact z3.filter _
  have lM : M.length ≤ 900 := by
    have := List.length_filter_le (fun a : Act => decide (a.which = w)) SS
    rw [hMe]; omega
  have x0 : ∀ (b : Act) h, vIx (eAct b) (.int 0) h = .ok (eM b.which) h := fun _ _ => rfl
  have x5 : ∀ (b : Act) h, vIx (eAct b) (.int 5) h = .ok (.str b.first) h := fun _ _ => rfl
  have lc1 : lcL (srcItems (SS.map (Val.int ∘ idxI))) (gNm 4) (tOf (e2 vEq (e2 vIx (e2 vIx (eVar 0) (eVar 4)) (eC (.int 0))) (eVar 2))) (eVar 4) [some (.ref na), some (.ref nb), some (eM w), none, none, none, none, none, none, none, none, none, none] (srcItems (SS.map (Val.int ∘ idxI))).len 0 h [] = .ok (M.map fun b => .int (idxI b)) h := by
    rw [lc_filterM (fun b : Act => decide (b.which = w)) (fun b : Act => .int (idxI b)) (fun b hb => ⟨_, rfl, by simp [ix_act hV hA (C.sub b ((z2 b).mp hb)), x0, eq_mk], fun _ => by simp⟩) (by rw [sizeLine_eq]; omega), hMe]
  have nalt : na < h.length := (List.getElem?_eq_some_iff.mp hA).1
  have ixa : ∀ (g : HM) {b : Act}, b ∈ A → vIx (.ref na) (.int (idxI b)) (h ++ g) = .ok (eAct b) (h ++ g) := fun g b hb => ix_act hV (by rw [List.getElem?_append_left nalt]; exact hA) hb
  -- the acts, one by one
  obtain ⟨l', h', ef, a4, a8, a9, el, eh⟩ := for_inv (xs := M.map fun b : Act => .int (idxI b)) (g := gNm 4) (b := m_law_left_f0) (l := [some (.ref na), some (.ref nb), some (eM w), some (.lst (M.map fun b : Act => .int (idxI b))), none, some (.ref h.length), some (.ref (h.length + 1)), some (.ref (h.length + 2)), none, none, none, none, none]) (h := h ++ [.dK [], .lst [], .lst []])
    (fun i l h' => ∃ a4 a8 a9, l = [some (.ref na), some (.ref nb), some (eM w), some (.lst (M.map fun b : Act => .int (idxI b))), a4, some (.ref h.length), some (.ref (h.length + 1)), some (.ref (h.length + 2)), a8, a9, none, none, none] ∧
      h' = h ++ [.dK (kvI (joinK [] ((M.map (·.mark)).take i))), .lst ((wdsOf M Kind.nm Kind.offN (M.take i)).map eW), .lst ((wdsOf M Kind.tx Kind.offT (M.take i)).map eW)])
    ⟨_, _, _, rfl, by simp [joinK, kvI, wdsOf]⟩ (by
    rintro i v l h' hx ⟨a4, a8, a9, rfl, rfl⟩
    rw [List.getElem?_map] at hx
    cases em : M[i]? with
    | none => rw [em] at hx; cases hx
    | some a =>
      rw [em] at hx
      cases hx
      have ha : a ∈ M := List.mem_of_getElem? em
      have et : M.take (i + 1) = M.take i ++ [a] := by rw [List.take_add_one, em]; rfl
      have l1 : (joinK [] ((M.map (·.mark)).take i)).length ≤ 1000 := by
        have := joinK_len (a := []) (b := (M.map (·.mark)).take i)
        have h2 : ((M.map (·.mark)).take i).length ≤ M.length := by simp; omega
        simp only [List.length_nil] at this
        omega
      have l2 : ∀ on off, (wdsOf M on off (M.take i)).length ≤ 1000 := fun on off => by
        have := wdsOf_len (M := M) (L := M.take i) (on := on) (off := off)
        have h2 : (M.take i).length ≤ M.length := by simp; omega
        omega
      obtain ⟨b8, b9, e⟩ := left_f0 (h := h) (nb := nb) (w := w) (M := M) (a := a) (ks := joinK [] ((M.map (·.mark)).take i)) (xs := wdsOf M Kind.nm Kind.offN (M.take i)) (ys := wdsOf M Kind.tx Kind.offT (M.take i)) (a8 := a8) (a9 := a9) (a10 := none) (a11 := none) (a12 := none) hV hA (hMA a ha) hMA (by omega) l1 (l2 _ _) (l2 _ _)
      refine ⟨_, _, _, rfl, e, _, _, _, rfl, ?_⟩
      rw [et, wdsOf_snoc, wdsOf_snoc, joinK_take (by rw [List.getElem?_map, em]; rfl)])
  have lm : (M.map fun b : Act => Val.int (idxI b)).length = M.length := by simp
  have lm2 : (M.map (·.mark)).length = M.length := by simp
  rw [lm, List.take_length, ← lm2, List.take_length] at eh
  have ndk : ((joinK [] (M.map (·.mark))).map (·.1)).Nodup := joinK_keys (by simp)
  have lk : (joinK [] (M.map (·.mark))).length ≤ 900 := by
    have := joinK_len (a := []) (b := M.map (·.mark))
    simp only [List.length_nil, lm2] at this
    omega
  -- what the file comes to
  have k1 : F.known = srt (joinK [] (M.map (·.mark))) := known_eq g.known.nd (keys_srt ndk) g.known.sd (srt_srt _) fun p => by
    rw [within_srt, joinK_within (fun m hm => by
      obtain ⟨a, ha, rfl⟩ := List.mem_map.mp hm
      have := O.rg a (hMA a ha)
      unfold Rg at this; omega) (by simp), Bool.eq_iff_iff, L.known, Bool.or_eq_true, within_marks]
    constructor
    · rintro ⟨a, h1, h2, h3⟩; exact .inr ⟨a, (hM a).mpr ⟨h1, h2⟩, h3⟩
    · rintro (h1 | ⟨a, h1, h2⟩)
      · cases h1
      · exact ⟨a, ((hM a).mp h1).1, ((hM a).mp h1).2, h2⟩
  have w1 : ∀ {xs : List Wd} {on off : Kind → Bool}, xs.Nodup → Sd xs → (∀ p, p ∈ xs ↔ Stands S w on off p) → srt (wdsOf M on off M) = xs := fun {xs on off} nd sd hx =>
    sd_eq (srt_srt _) sd (srt_nd (nd_fst (wdsOf_nd O hMA ndM))) nd fun p => by rw [srt_mem, wdsOf_stands hM, hx]
  have k2 := w1 (nd_fst g.names.nd) g.names.sd L.names
  have k3 := w1 (nd_fst g.texts.nd) g.texts.sd L.texts
  obtain ⟨a0, ha0, hfst⟩ : ∃ a0, M[0]? = some a0 ∧ F.first = a0.first := by
    obtain ⟨c, hc, hcw⟩ := hw
    have : 0 < M.length := List.length_pos_of_mem ((hM c).mpr ⟨hc, hcw⟩)
    refine ⟨M[0], by simp [this], ?_⟩
    have hm := (hM M[0]).mp (List.getElem_mem this)
    exact L.first _ hm.1 hm.2
  have ha0A := hMA a0 (List.mem_of_getElem? ha0)
  have l2 : ∀ on off, (wdsOf M on off M).length ≤ 1000 := fun on off => by
    have := wdsOf_len (M := M) (L := M) (on := on) (off := off)
    omega
  have okW1 : ∀ {on off} {xs : List Wd}, srt (wdsOf M on off M) = xs → okW xs → okW (wdsOf M on off M) := fun {on off xs} e ox p hp => ox p (by rw [← e]; exact srt_mem.mpr hp)
  have v0 : ∀ h, vIx (.lst (M.map fun b : Act => .int (idxI b))) (.int 0) h = .ok (.int (idxI a0)) h := fun h => by
    have : (M.map fun b : Act => Val.int (idxI b))[0]? = some (.int (idxI a0)) := by rw [List.getElem?_map, ha0]; rfl
    simp only [vIx, atI_nat (Int.le_refl 0)]
    show ofO ((M.map fun b : Act => Val.int (idxI b))[0]?) h = _
    rw [this]; rfl
  have eF : Val.tup [eM w, .str a0.first, .tup ((srt (joinK [] (M.map (·.mark)))).map eM), .tup ((srt (wdsOf M Kind.nm Kind.offN M)).map eW), .tup ((srt (wdsOf M Kind.tx Kind.offT M)).map eW)] = eB (F, false) := by
    rw [k2, k3, ← k1, ← hfst, ← L.id]; rfl
  generalize hX : wdsOf M Kind.nm Kind.offN M = X at *
  generalize hY : wdsOf M Kind.tx Kind.offT M = Y at *
  generalize hK : joinK [] (M.map (·.mark)) = K at *
  have h3a : h'[h.length]? = some (.dK (kvI K)) := by rw [eh]; simp
  have h3b : h'[h.length + 1]? = some (.lst (X.map Enc.enc)) := by rw [eh, encW]; simp
  have h3c : h'[h.length + 2]? = some (.lst (Y.map Enc.enc)) := by rw [eh, encW]; simp
  have s1 := sorted_kvI h3a (by omega)
  rw [srt_houses ndk, List.map_map] at s1
  have lX : X.length ≤ 1000 := by rw [← hX]; exact l2 _ _
  have lY : Y.length ≤ 1000 := by rw [← hY]; exact l2 _ _
  have s2 := sorted_ref h3b (sortable_pair _) (by omega)
  have s3 := sorted_ref h3c (sortable_pair _) (by omega)
  rw [encW] at s2 s3
  have lc2 : lcL (srcItems ((srt K).map (Val.int ∘ (·.1)))) (gNm 12) tYesM (eDisp mkTup (aCons (eVar 12) (aCons (e2 vIx (eVar 5) (eVar 12)) (aNil)))) [some (.ref na), some (.ref nb), some (eM w), some (.lst (M.map fun b : Act => .int (idxI b))), a4, some (.ref h.length), some (.ref (h.length + 1)), some (.ref (h.length + 2)), a8, a9, none, none, none] (srcItems ((srt K).map (Val.int ∘ (·.1)))).len 0 h' [] = .ok ((srt K).map eM) h' := by
    refine lc_mapM eM (fun m hm => ⟨_, rfl, ?_⟩) (by rw [sizeLine_eq, srt_len]; omega)
    have : vIx (.ref h.length) (.int m.1) h' = .ok (.int m.2) h' := by
      simp only [vIx, h3a, dGet, keyOf, Option.map_some, look_at' ndk (srt_mem.mp hm)]
    simp [this, eM]
  have ixa' : vIx (.ref na) (.int (idxI a0)) h' = .ok (eAct a0) h' := by rw [eh]; exact ixa _ ha0A
  refine ⟨[.dK (kvI K), .lst (X.map eW), .lst (Y.map eW)], ?_⟩
  rw [← eh, ← eF]
  unfold m_law_left mF
  simp [so, srcOf, wipeL, lc1]
  rw [ef, el]
  simp [s1, s2, s3, srcOf, wipeL, lc2, bTuple, seqL, v0, ixa', x5]
def fileV2 (E : List (Mk × Fl)) (w : Mk) : Val := match getM E w with
  | some F => eB (F, false)
  | none => .non
theorem pairsI_marks : ∀ (ms : List Mk), pairsI (ms.map eM) = some ms
  | [] => rfl
  | m :: ms => by
    have := pairsI_marks ms
    simp only [List.map_cons, eM, pairsI, this]
theorem Shelf.keys {E : List (Mk × Fl)} (H : Shelf S E) (m : Mk) : m ∈ E.map (·.1) ↔ m ∈ S.map (·.which) := by
  rw [mem_keysM, hasM_get, Option.isSome_iff_exists]
  constructor
  · rintro ⟨F, e⟩
    obtain ⟨⟨a, ha, rfl⟩, _⟩ := H.ok m F e
    exact List.mem_map_of_mem ha
  · intro h
    obtain ⟨a, ha, rfl⟩ := List.mem_map.mp h
    exact H.all a ha
theorem sortU_shelf {E : List (Mk × Fl)} (O : OkA A) (C : Closed A S) (H : Shelf S E) (hsm : ∀ a ∈ A, a.which.2 < 64) : sortU (S.map (·.which)) = srt (E.map (·.1)) ∧ (S.map (·.which)).all small = true := by
  have rg : ∀ m ∈ S.map (·.which), 0 ≤ m.1 ∧ m.1 ≤ 5 ∧ 1 ≤ m.2 ∧ m.2 < 64 := fun m hm => by
    obtain ⟨a, ha, rfl⟩ := List.mem_map.mp hm
    have h1 := O.rgw a (C.sub a ha)
    have h2 := hsm a (C.sub a ha)
    unfold Rg at h1; omega
  have sm : ∀ m ∈ S.map (·.which), small m = true := fun m hm => by
    have := rg m hm
    unfold small
    simp only [decide_eq_true_eq]; omega
  refine ⟨(sortU_eq sm (srt_nd H.nd) ?_ fun m => ?_).symm, List.all_eq_true.mpr sm⟩
  · refine (srt_pw (E.map (·.1))).imp_of_mem fun {a b} ha hb hlt => ?_
    have ra := rg a ((H.keys a).mp (srt_mem.mp ha))
    have rb := rg b ((H.keys b).mp (srt_mem.mp hb))
    rw [lt_pair] at hlt
    unfold codeM
    by_cases e : b.1 = a.1
    · rw [if_pos e] at hlt
      have : ¬ b.2 < a.2 := of_decide_eq_false hlt
      omega
    · rw [if_neg e] at hlt
      have : ¬ b.1 < a.1 := of_decide_eq_false hlt
      omega
  · rw [srt_mem, H.keys]
theorem at_files {E : List (Mk × Fl)} {st : Val} {i : Int} {nbs : Nat} (O : OkA A) (hV : ∀ a ∈ A, V[a.idx]? = some (eAct a)) (C : Closed A S) (H : Shelf S E) (hA : h[na]? = some (.lst V)) (hB : h[nb]? = some (.dK (kvB S))) (lA : A.length < 64) (hsm : ∀ a ∈ A, a.which.2 < 64)
    (s3 : ∀ h, vIx st (.int 3) h = .ok (.ref na) h) (s4 : ∀ h, vIx st (.int 4) h = .ok (.ref nbs) h) (hb : vIx (.ref nbs) (.int i) h = .ok (.ref nb) h) :
    ∃ g', m_law_files [st, .int i] h = .ok (.lst ((srt (E.map (·.1))).map (fileV2 E))) (h ++ g') := by
  have lS := C.len O
  have lE := H.len C
  have hne : nb ≠ na := fun e => by rw [e, hA] at hB; cases hB
  have nalt : na < h.length := (List.getElem?_eq_some_iff.mp hA).1
  have nblt : nb < h.length := (List.getElem?_eq_some_iff.mp hB).1
  have hL : (h.set nb (.lK (kvB S)))[nb]? = some (.lK (kvB S)) := List.getElem?_set_self nblt
  have hLA : (h.set nb (.lK (kvB S)))[na]? = some (.lst V) := by rw [List.getElem?_set_ne hne]; exact hA
  have back : (h.set nb (.lK (kvB S))).set nb (.dK (kvB S)) = h := by rw [List.set_set, set_same hB]
  have kL : keysSrc (.ref nb) (h.set nb (.lK (kvB S))) = .ok (srcItems (S.map (Val.int ∘ idxI))) (h.set nb (.lK (kvB S))) := by
    simp only [keysSrc, hL, kvB_keys, List.map_map]
  have x0 : ∀ (b : Act) h, vIx (eAct b) (.int 0) h = .ok (eM b.which) h := fun _ _ => rfl
  have lc1 : ∀ a4, lcL (srcItems (S.map (Val.int ∘ idxI))) (gNm 5) tYesM (e2 vIx (e2 vIx (eVar 2) (eVar 5)) (eC (.int 0))) [some st, some (.int i), some (.ref na), some (.ref nb), a4, none] (srcItems (S.map (Val.int ∘ idxI))).len 0 (h.set nb (.lK (kvB S))) [] = .ok (S.map fun a => eM a.which) (h.set nb (.lK (kvB S))) := fun a4 =>
    lc_mapM (fun a : Act => eM a.which) (fun a ha => ⟨_, rfl, by simp [ix_act hV hLA (C.sub a ha), x0]⟩) (by rw [sizeLine_eq]; omega)
  obtain ⟨so1, so2⟩ := sortU_shelf O C H hsm
  have e0 : (S.map fun a => eM a.which) = (S.map (·.which)).map eM := by rw [List.map_map]; rfl
  have ss : ∀ h, vSortSet (.lst (S.map fun a => eM a.which)) h = .ok (.lst ((srt (E.map (·.1))).map eM)) h := fun h => by
    have hl : (S.map (·.which)).length < 64 := by simp; omega
    rw [e0]
    simp only [vSortSet, pairsI_marks]
    rw [if_pos ⟨hl, so2⟩, so1]
    rfl
  obtain ⟨h', e1, g', e2'⟩ := lc_inv2 (src := srcItems ((srt (E.map (·.1))).map eM)) (xs := srt (E.map (·.1))) (e := eM) (g := gNm 4) (te := eCall m_law_left (aCons (eVar 2) (aCons (eVar 3) (aCons (eVar 4) (aNil))))) (l := [some st, some (.int i), some (.ref na), some (.ref nb), none, none]) (h := h) (fileV2 E)
    (fun _ h' => ∃ g', h' = h ++ g') (by simp [srcItems]) ⟨[], by simp⟩ (by
    rintro j w h' hx ⟨g1, rfl⟩
    refine ⟨by simp only [srcItems]; rw [List.getElem?_map, hx]; rfl, ?_⟩
    have hw := List.mem_of_getElem? hx
    have hw2 := mem_keysM.mp (srt_mem.mp hw)
    rw [hasM_get, Option.isSome_iff_exists] at hw2
    obtain ⟨F, hF⟩ := hw2
    obtain ⟨hex, L, n, g⟩ := H.ok w F hF
    obtain ⟨g2, e⟩ := at_left (h := h ++ g1) (na := na) (nb := nb) O hV C (by rw [List.getElem?_append_left nalt]; exact hA) (by rw [List.getElem?_append_left nblt]; exact hB) (by omega) L g hex
    refine ⟨[some st, some (.int i), some (.ref na), some (.ref nb), some (eM w), none], h ++ g1 ++ g2, rfl, ?_, g1 ++ g2, by rw [List.append_assoc]⟩
    simp only [ev_eCall, ev_aCons, ev_aNil, ev_VarS, ev_Var0, Res.bind_ok, e, fileV2, hF]) (fun h _ => rfl) (by rw [srt_len]; simp; omega)
  refine ⟨g', ?_⟩
  rw [← e2']
  have evs : ∀ (m : EM) (l : Loc) (h : HM), eSortSet m l h = (m l h).bind vSortSet := fun _ _ _ => rfl
  unfold m_law_files mF
  simp [s3, s4, hb, evs, hB, lockO, kL, wipeL, lc1, back, ss, srcOf, e1]
end
end
end MM
namespace MM
open PySem L2 PySem.W
noncomputable section
def m_law_start : FM := mF 5 (sSeq (sAsg (eSl (eCall s_law_perm (aCons (eCall m_law_cell (aCons (eVar 0) (aCons (eC (.int 0)) (aNil)))) (aCons (eC (.int 6)) (aNil)))) (oNone) (oSome (eVar 1))) (gNm 2))
  (sRet (eDisp mkTup (aCons (eLc (iVal (eVar 2)) (gNm 3) (tYesM) (eMake 0 m_House_init (aCons (eVar 3) (aNil))) [3] fresh) (aCons (eVar 2) (aCons (eLc (iVal (eVar 2)) (gNm 4) (tYesM) (eC (.int 0)) [4] fresh) (aCons (eDisp mkRef (aNil)) (aCons (eLc (iVal (eVar 2)) (gNm 4) (tYesM) (eDictK) [4] fresh) (aNil)))))))))
def m_law_tell_f0 : SM := sIf (tOf (e2 vEq (e2 vIx (e2 vIx (eVar 7) (eVar 9)) (eC (.int 0))) (eVar 3))) (sSub (e2 vIx (eVar 8) (eVar 1)) (eVar 9) (eC (.bl true))) (sNil)
def m_law_tell : FM := mF 10 (sSeq (sAsg (eVar 0) (gTp 5 (gsCons (gNm 4) (gsCons (gNm 5) (gsCons (gNm 6) (gsCons (gNm 7) (gsCons (gNm 8) (gsNil))))))))
  (sFor (iVal (eBi bList (aCons (e2 vIx (eVar 8) (eVar 2)) (aNil)))) (gNm 9) m_law_tell_f0))
def m_law_deed : FM := mF 17 (sSeq (sAsg (eVar 0) (gTp 5 (gsCons (gNm 2) (gsCons (gNm 3) (gsCons (gNm 4) (gsCons (gNm 5) (gsCons (gNm 6) (gsNil))))))))
  (sSeq (sAsg (e2 vMod (eVar 1) (eBi bLen (aCons (eVar 2) (aNil)))) (gNm 7))
  (sSeq (sAsg (eLc (iVal (eCall m_law_files (aCons (eVar 0) (aCons (eVar 7) (aNil))))) (gNm 9) (tTru (e2 vIx (eVar 9) (eC (.int 4)))) (eVar 9) [9] frozen) (gNm 8))
  (sSeq (sAsg (e2 vIx (eDisp mkTup (aCons (eC (.str "make")) (aCons (eC (.str "write")) (aCons (eC (.str "rename")) (aCons (eC (.str "write")) (aCons (eC (.str "rename")) (aCons (eC (.str "drop")) (aNil)))))))) (eCall m_law_mix (aCons (eVar 1) (aCons (eC (.int 9857)) (aCons (eC (.int 6)) (aNil)))))) (gNm 10))
  (sSeq (sAsg (eCall m_law_name (aCons (e2 vAdd (eVar 1) (eC (.int 1))) (aNil))) (gNm 11))
  (sSeq (sAsg (eCall m_law_text (aCons (e2 vAdd (eVar 1) (eC (.int 2))) (aNil))) (gNm 12))
  (sSeq (sSub (eVar 4) (eVar 7) (e2 vAdd (e2 vIx (eVar 4) (eVar 7)) (eC (.int 1))))
  (sSeq (sAsg (eDisp mkTup (aCons (e2 vIx (eVar 3) (eVar 7)) (aCons (e2 vIx (eVar 4) (eVar 7)) (aNil)))) (gNm 13))
  (sSeq (sIf (tOrM (tOf (e2 vEq (eVar 10) (eC (.str "make")))) (tNotM (tTru (eVar 8)))) (sSeq (sAsg (eCall s_law_same (aCons (eMeth 0 m_House_make (e2 vIx (eVar 2) (eVar 7)) (aCons (eVar 11) (aCons (eVar 12) (aNil)))) (aCons (eVar 13) (aNil)))) (gNm 14))
  (sSeq (sAsg (eDisp mkTup (aCons (eVar 13) (aCons (eVar 11) (aNil)))) (gNm 9))
  (sAsg (eC (.str "make")) (gNm 10)))) (sSeq (sAsg (e2 vIx (eVar 8) (eCall m_law_mix (aCons (eVar 1) (aCons (eC (.int 9851)) (aCons (eBi bLen (aCons (eVar 8) (aNil))) (aNil)))))) (gNm 9))
  (sIf (tOf (e2 vEq (eVar 10) (eC (.str "write")))) (sAsg (e2 vIs (eMeth 0 m_House_write (e2 vIx (eVar 2) (eVar 7)) (aCons (e2 vIx (eVar 9) (eC (.int 0))) (aCons (eVar 12) (aNil)))) (eC .non)) (gNm 14)) (sIf (tOf (e2 vEq (eVar 10) (eC (.str "rename")))) (sSeq (sAsg (e2 vIs (eMeth 0 m_House_rename (e2 vIx (eVar 2) (eVar 7)) (aCons (e2 vIx (eVar 9) (eC (.int 0))) (aCons (eVar 11) (aNil)))) (eC .non)) (gNm 14))
  (sAsg (eVar 11) (gNm 12))) (sAsg (e2 vIs (eMeth 0 m_House_drop (e2 vIx (eVar 2) (eVar 7)) (aCons (e2 vIx (eVar 9) (eC (.int 0))) (aNil))) (eC .non)) (gNm 14))))))
  (sSeq (sLock (e2 vIx (eVar 6) (eVar 7)) (sAsg (eLc (iKeysA (e2 vIx (eVar 6) (eVar 7))) (gNm 16) (tOf (e2 vEq (e2 vIx (e2 vIx (eVar 5) (eVar 16)) (eC (.int 0))) (e2 vIx (eVar 9) (eC (.int 0))))) (eVar 16) [16] frozen) (gNm 15)))
  (sSeq (sSub (e2 vIx (eVar 6) (eVar 7)) (eBi bLen (aCons (eVar 5) (aNil))) (eC (.bl true)))
  (sSeq (sDrop (eBm .list mAppend (eVar 5) (aCons (eDisp mkTup (aCons (e2 vIx (eVar 9) (eC (.int 0))) (aCons (eVar 13) (aCons (eVar 10) (aCons (eVar 12) (aCons (eVar 15) (aCons (e2 vIx (eVar 9) (eC (.int 1))) (aNil)))))))) (aNil))))
  (sRet (eVar 14))))))))))))))
structure Wo where
  m : Nat
  num : Nat → Int
  ct : Nat → Int
  A : List Act
  V : List Val
  S : Nat → List Act
  E : Nat → List (Mk × Fl)
  out : Mk → Prop
/-- where the lists, the houses and the books stand -/
structure Loci where
  hs : Nat
  cs : Nat
  as : Nat
  bs : Nat
  ha : Nat → Nat
  ba : Nat → Nat
structure Sep (D : Loci) (m : Nat) : Prop where
  l1 : D.hs ≠ D.cs
  l2 : D.hs ≠ D.as
  l3 : D.hs ≠ D.bs
  l4 : D.cs ≠ D.as
  l5 : D.cs ≠ D.bs
  l6 : D.as ≠ D.bs
  ha : ∀ i, i < m → ∀ q, q = D.ha i ∨ q = D.ha i + 1 → q ≠ D.hs ∧ q ≠ D.cs ∧ q ≠ D.as ∧ q ≠ D.bs
  ba : ∀ i, i < m → D.ba i ≠ D.hs ∧ D.ba i ≠ D.cs ∧ D.ba i ≠ D.as ∧ D.ba i ≠ D.bs
  hb : ∀ i, i < m → ∀ j, j < m → D.ba j ≠ D.ha i ∧ D.ba j ≠ D.ha i + 1
  hh : ∀ i, i < m → ∀ j, j < m → i ≠ j → D.ha i + 1 < D.ha j ∨ D.ha j + 1 < D.ha i
  bb : ∀ i, i < m → ∀ j, j < m → i ≠ j → D.ba i ≠ D.ba j
/-- a place that is none of the world's -/
structure Out (D : Loci) (m : Nat) (q : Nat) : Prop where
  hs : q ≠ D.hs
  cs : q ≠ D.cs
  as : q ≠ D.as
  bs : q ≠ D.bs
  ha : ∀ i, i < m → q ≠ D.ha i ∧ q ≠ D.ha i + 1
  ba : ∀ i, i < m → q ≠ D.ba i
def up {α : Type} (f : Nat → α) (i : Nat) (v : α) : Nat → α := fun j => if j = i then v else f j
theorem up_same {α : Type} {f : Nat → α} {i : Nat} {v : α} : up f i v i = v := by simp [up]
theorem up_ne {α : Type} {f : Nat → α} {i j : Nat} {v : α} (h : j ≠ i) : up f i v j = f j := by simp [up, h]
theorem range_set {f : Nat → Val} {m i : Nat} {v : Val} : ((List.range m).map f).set i v = (List.range m).map (up f i v) := by
  apply List.ext_getElem?
  intro j
  rw [List.getElem?_set]
  simp only [List.length_map, List.length_range, List.getElem?_map]
  by_cases e : i = j
  · subst e
    by_cases h : i < m
    · simp [h, up]
    · simp [h]
  · have e2 : ¬ j = i := fun z => e z.symm
    by_cases h : j < m
    · simp [e, h, up, e2]
    · simp [e, h]
/-- where the houses, their counts, the acts, and who heard of what stand -/
structure WAt (D : Loci) (W : Wo) (h : HM) : Prop where
  hs : h[D.hs]? = some (.lst ((List.range W.m).map fun i => .ref (D.ha i)))
  cs : h[D.cs]? = some (.lst ((List.range W.m).map fun i => .int (W.ct i)))
  as : h[D.as]? = some (.lst W.V)
  bs : h[D.bs]? = some (.lst ((List.range W.m).map fun i => .ref (D.ba i)))
  hh : ∀ i, i < W.m → HE h (D.ha i) (W.num i) (W.ct i) (W.E i)
  bk : ∀ i, i < W.m → h[D.ba i]? = some (.dK (kvB (W.S i)))
  sp : Sep D W.m
/-- but for the houses, the acts and the books all stays -/
def Frm (D : Loci) (m : Nat) (h h' : HM) : Prop := h.length ≤ h'.length ∧ ∀ q, q < h.length → Out D m q → h'[q]? = h[q]?
theorem Frm.app {D : Loci} {m : Nat} {h g : HM} : Frm D m h (h ++ g) := ⟨by simp, fun q hq _ => List.getElem?_append_left hq⟩
theorem Frm.trans {D : Loci} {m : Nat} {h h1 h2 : HM} (x : Frm D m h h1) (y : Frm D m h1 h2) : Frm D m h h2 := ⟨Nat.le_trans x.1 y.1, fun q hq e => (y.2 q (Nat.lt_of_lt_of_le hq x.1) e).trans (x.2 q hq e)⟩
def stV (D : Loci) (m : Nat) (num : Nat → Int) : Val := .tup [.ref D.hs, .lst ((List.range m).map fun i => .int (num i)), .ref D.cs, .ref D.as, .ref D.bs]
structure WOk (W : Wo) : Prop where
  ok : OkA W.A
  ix : ∀ a ∈ W.A, W.V[a.idx]? = some (eAct a)
  ln : W.A.length ≤ W.V.length
  cl : ∀ i, i < W.m → Closed W.A (W.S i)
  sh : ∀ i, i < W.m → Shelf (W.S i) (W.E i)
  nums : ∀ i, i < W.m → 0 ≤ W.num i ∧ W.num i ≤ 5
  inj : ∀ i, i < W.m → ∀ j, j < W.m → W.num i = W.num j → i = j
  own : ∀ a ∈ W.A, ∃ i, i < W.m ∧ a.mark.1 = W.num i ∧ a.mark.2 ≤ W.ct i ∧ (W.out a.which ∨ a ∈ W.S i)
  oute : ∀ w, W.out w → ∃ a ∈ W.A, a.which = w
  outs : ∀ w, W.out w → ∀ i, i < W.m → (∀ a ∈ W.A, a.which = w → a ∈ W.S i) ∨ (∀ a ∈ W.S i, a.which ≠ w)
  outg : ∀ w, W.out w → ∀ p, ¬ Stands W.A w Kind.tx Kind.offT p
  ct0 : ∀ i, i < W.m → 0 ≤ W.ct i ∧ W.ct i ≤ W.V.length
  m6 : W.m ≤ 6
theorem WOk.small {W : Wo} (O : WOk W) (hl : W.V.length < 64) : ∀ a ∈ W.A, a.which.2 < 64 := fun a ha => by
  obtain ⟨c, hc, e, _⟩ := O.ok.made a ha
  obtain ⟨i, hi, _, h2, _⟩ := O.own c hc
  have := (O.ct0 i hi).2
  rw [← e]
  omega
theorem WAt.app {D : Loci} {W : Wo} {h g : HM} (H : WAt D W h) : WAt D W (h ++ g) := by
  have key : ∀ {k : Nat} {o : Ob}, h[k]? = some o → (h ++ g)[k]? = some o := fun {k o} e => by
    rw [List.getElem?_append_left (List.getElem?_eq_some_iff.mp e).1]; exact e
  exact ⟨key H.hs, key H.cs, key H.as, key H.bs, fun i hi => (H.hh i hi).app, fun i hi => key (H.bk i hi), H.sp⟩
section
variable {D : Loci} {W : Wo} {h : HM} {i : Nat}
theorem ix_range {f : Nat → Val} {m i : Nat} {h : HM} {n : Nat} (hn : h[n]? = some (.lst ((List.range m).map f))) (hi : i < m) : vIx (.ref n) (.int (i : Nat)) h = .ok (f i) h := by
  have : ((List.range m).map f)[i]? = some (f i) := by simp [hi]
  simp only [vIx, hn, atI_nat (Int.natCast_nonneg i), Int.toNat_natCast, this]
  rfl
theorem ix_rangeL {f : Nat → Val} {m i : Nat} {h : HM} (hi : i < m) : vIx (.lst ((List.range m).map f)) (.int (i : Nat)) h = .ok (f i) h := by
  have : ((List.range m).map f)[i]? = some (f i) := by simp [hi]
  simp only [vIx, atI_nat (Int.natCast_nonneg i), Int.toNat_natCast, this]
  rfl
theorem set_range {f : Nat → Val} {m i : Nat} {h : HM} {n : Nat} {v : Val} (hn : h[n]? = some (.lst ((List.range m).map f))) (hi : i < m) : setI (.ref n) (.int (i : Nat)) v h = some (h.set n (.lst ((List.range m).map (up f i v)))) := by
  have : ixN ((List.range m).map f).length (i : Nat) = some i := by
    unfold ixN
    simp [hi]
  simp only [setI, hn, this, Option.map_some, range_set]
theorem len_ref {xs : List Val} {h : HM} {n : Nat} (hn : h[n]? = some (.lst xs)) : bLen [.ref n] h = .ok (.int xs.length) h := by
  simp only [bLen, lenN, hn]
/-- the law's list of a house's files -/
theorem at_filesW (O : WOk W) (H : WAt D W h) (hl : W.V.length < 64) (hi : i < W.m) : ∃ g', m_law_files [stV D W.m W.num, .int (i : Nat)] h = .ok (.lst ((srt ((W.E i).map (·.1))).map (fileV2 (W.E i)))) (h ++ g') :=
  at_files (nbs := D.bs) O.ok O.ix (O.cl i hi) (O.sh i hi) H.as (H.bk i hi) (by have := O.ln; omega) (O.small hl) (fun _ => rfl) (fun _ => rfl) (ix_range H.bs hi)
def restD : SM := (sSeq (sLock (e2 vIx (eVar 6) (eVar 7)) (sAsg (eLc (iKeysA (e2 vIx (eVar 6) (eVar 7))) (gNm 16) (tOf (e2 vEq (e2 vIx (e2 vIx (eVar 5) (eVar 16)) (eC (.int 0))) (e2 vIx (eVar 9) (eC (.int 0))))) (eVar 16) [16] frozen) (gNm 15)))
  (sSeq (sSub (e2 vIx (eVar 6) (eVar 7)) (eBi bLen (aCons (eVar 5) (aNil))) (eC (.bl true)))
  (sSeq (sDrop (eBm .list mAppend (eVar 5) (aCons (eDisp mkTup (aCons (e2 vIx (eVar 9) (eC (.int 0))) (aCons (eVar 13) (aCons (eVar 10) (aCons (eVar 12) (aCons (eVar 15) (aCons (e2 vIx (eVar 9) (eC (.int 1))) (aNil)))))))) (aNil))))
  (sRet (eVar 14)))))
def pastOf (S : List Act) (w : Mk) : List Nat := (S.filter fun a => decide (a.which = w)).map (·.idx)
theorem mem_pastOf {S : List Act} {w : Mk} {i : Nat} : i ∈ pastOf S w ↔ ∃ a ∈ S, a.which = w ∧ a.idx = i := by
  unfold pastOf
  simp only [List.mem_map, List.mem_filter, decide_eq_true_eq, and_assoc]
theorem at_restD {st c hs nm cs live nme : Val} {A S : List Act} {V : List Val} {file : Val} {kd : Kind} {what : Str} {mk w : Mk} {first : Str} {na nbs nb at_ : Nat} (O : OkA A) (hV : ∀ a ∈ A, V[a.idx]? = some (eAct a)) (C : Closed A S) (lA : A.length ≤ 900) (lV : V.length ≤ 900) (hA : h[na]? = some (.lst V)) (hB : h[nb]? = some (.dK (kvB S)))
    (hb : ∀ h', h'[nbs]? = h[nbs]? → vIx (.ref nbs) (.int (at_ : Nat)) h' = .ok (.ref nb) h') (hnb : nb ≠ nbs) (f0 : ∀ h, vIx file (.int 0) h = .ok (eM w) h) (f1 : ∀ h, vIx file (.int 1) h = .ok (.str first) h) :
    restD [some st, some c, some hs, some nm, some cs, some (.ref na), some (.ref nbs), some (.int (at_ : Nat)), some live, some file, some (.str (kindS kd)), some nme, some (.str what), some (eM mk), some (.bl true), none, none] h =
      .rt (.bl true) ((h.set nb (.dK (kvB (S ++ [Act.mk V.length w mk kd what (pastOf S w) first])))).set na (.lst (V ++ [eAct (Act.mk V.length w mk kd what (pastOf S w) first)]))) := by
  have lS := C.len O
  have hne : nb ≠ na := fun e => by rw [e, hA] at hB; cases hB
  have nalt : na < h.length := (List.getElem?_eq_some_iff.mp hA).1
  have nblt : nb < h.length := (List.getElem?_eq_some_iff.mp hB).1
  have hL : (h.set nb (.lK (kvB S)))[nb]? = some (.lK (kvB S)) := List.getElem?_set_self nblt
  have hLA : (h.set nb (.lK (kvB S)))[na]? = some (.lst V) := by rw [List.getElem?_set_ne hne]; exact hA
  have back : (h.set nb (.lK (kvB S))).set nb (.dK (kvB S)) = h := by rw [List.set_set, set_same hB]
  have kL : keysSrc (.ref nb) (h.set nb (.lK (kvB S))) = .ok (srcItems (S.map (Val.int ∘ idxI))) (h.set nb (.lK (kvB S))) := by
    simp only [keysSrc, hL, kvB_keys, List.map_map]
  have x0 : ∀ (b : Act) h, vIx (eAct b) (.int 0) h = .ok (eM b.which) h := fun _ _ => rfl
  have hbL : vIx (.ref nbs) (.int (at_ : Nat)) (h.set nb (.lK (kvB S))) = .ok (.ref nb) (h.set nb (.lK (kvB S))) := hb _ (List.getElem?_set_ne hnb)
  have hb0 : vIx (.ref nbs) (.int (at_ : Nat)) h = .ok (.ref nb) h := hb _ rfl
  have lc1 : lcL (srcItems (S.map (Val.int ∘ idxI))) (gNm 16) (tOf (e2 vEq (e2 vIx (e2 vIx (eVar 5) (eVar 16)) (eC (.int 0))) (e2 vIx (eVar 9) (eC (.int 0))))) (eVar 16) [some st, some c, some hs, some nm, some cs, some (.ref na), some (.ref nbs), some (.int (at_ : Nat)), some live, some file, some (.str (kindS kd)), some nme, some (.str what), some (eM mk), some (.bl true), none, none] (srcItems (S.map (Val.int ∘ idxI))).len 0 (h.set nb (.lK (kvB S))) [] = .ok (pastV (pastOf S w)) (h.set nb (.lK (kvB S))) := by
    rw [lc_filterM (fun a : Act => decide (a.which = w)) (fun a : Act => .int (idxI a)) (fun a ha => ⟨_, rfl, by simp [ix_act hV hLA (C.sub a ha), x0, f0, eq_mk], fun _ => by simp⟩) (by rw [sizeLine_eq]; omega)]
    unfold pastV pastOf
    rw [List.map_map]
    rfl
  obtain ⟨a, hae⟩ : ∃ a : Act, a = Act.mk V.length w mk kd what (pastOf S w) first := ⟨_, rfl⟩
  have eA : Val.tup [eM w, eM mk, .str (kindS kd), .str what, .lst (pastV (pastOf S w)), .str first] = eAct a := by rw [hae]; rfl
  have pv : putV (kvB S) (.inl ((V.length : Nat) : Int)) (.bl true) = kvB (S ++ [a]) := by
    unfold putV
    rw [if_neg]
    · simp [kvB, hae, idxI]
    · simp only [List.any_eq_true, not_exists, not_and, decide_eq_true_eq]
      intro p hp e
      unfold kvB at hp
      obtain ⟨x, hx, rfl⟩ := List.mem_map.mp hp
      have h1 := (List.getElem?_eq_some_iff.mp (hV x (C.sub x hx))).1
      have h2 : idxI x = ((V.length : Nat) : Int) := Sum.inl.inj e
      unfold idxI at h2; omega
  have s1 : setI (.ref nb) (.int ((V.length : Nat) : Int)) (.bl true) h = some (h.set nb (.dK (kvB (S ++ [a])))) := by
    have : (kvB S).length < sizeLine := by rw [sizeLine_eq]; simp [kvB]; omega
    simp only [setI, hB, if_pos this, keyOf, Option.map_some, pv]
  have ln := len_ref hA
  rw [← hae]
  have hA2 : (h.set nb (.dK (kvB (S ++ [a]))))[na]? = some (.lst V) := by rw [List.getElem?_set_ne hne]; exact hA
  have ap : mAppend (.ref na) [eAct a] (h.set nb (.dK (kvB (S ++ [a])))) = .ok .non ((h.set nb (.dK (kvB (S ++ [a])))).set na (.lst (V ++ [eAct a]))) := by
    have : V.length < sizeLine := by rw [sizeLine_eq]; omega
    simp only [mAppend, hA2, if_pos this]
  have kd1 : isKd .list (.ref na) (h.set nb (.dK (kvB (S ++ [a])))) = true := by simp [isKd, seqL, hA2]
  have mt : ∀ h, mkTup [eM w, eM mk, .str (kindS kd), .str what, .lst (pastV (pastOf S w)), .str first] h = .ok (eAct a) h := fun h => by rw [← eA]; exact ev_mkTup (by simp)
  clear eA
  generalize pastV (pastOf S w) = P at *
  unfold restD
  simp [hb0, hbL, hB, lockO, kL, wipeL, lc1, back, ln, s1, f0, f1, kd1, mt, ap, -ev_mkTup]
def Wo.acted (W : Wo) (i : Nat) (a : Act) (E : List (Mk × Fl)) : Wo := ⟨W.m, W.num, up W.ct i (W.ct i + 1), W.A ++ [a], W.V ++ [eAct a], up W.S i (W.S i ++ [a]), up W.E i E, W.out⟩
theorem WOk.new (O : WOk W) (hi : i < W.m) {a : Act} (ix : a.idx = W.V.length) (hno : ¬ W.out a.which) (mk : a.mark = (W.num i, W.ct i + 1)) (hp : a.past = pastOf (W.S i) a.which)
    (first : ∀ b ∈ W.A, b.which = a.which → b.first = a.first) (rgw : Rg a.which) (nm : isName (.str a.first) = true ∧ PyData.strOk a.first = true) (wt : PyData.strOk a.what = true) (wn : a.kind.nm = true → isName (.str a.what) = true) (wx : a.kind.tx = true → isText (.str a.what) = true)
    (hex : a.mark = a.which ∨ ∃ c ∈ W.S i, c.which = a.which) : NewAct W.A a := by
  have C := O.cl i hi
  have own : ∀ b ∈ W.A, b.mark.1 = W.num i → b.mark.2 ≤ W.ct i ∧ (W.out b.which ∨ b ∈ W.S i) := fun b hb e => by
    obtain ⟨j, hj, h1, h2, h3⟩ := O.own b hb
    have := O.inj j hj i hi (h1.symm.trans e)
    subst this
    exact ⟨h2, h3⟩
  have m1 : a.mark.1 = W.num i := by rw [mk]
  have m2 : a.mark.2 = W.ct i + 1 := by rw [mk]
  have n0 := O.nums i hi
  have c0 := O.ct0 i hi
  refine ⟨fun b hb => by have := (List.getElem?_eq_some_iff.mp (O.ix b hb)).1; omega, fun b hb e => ?_, fun b hb e1 e2 => ?_, fun j hj => ?_, first, ?_, rgw, nm, wt, wn, wx, ?_⟩
  · have := (own b hb (e.trans m1)).1; omega
  · rw [hp, mem_pastOf]
    exact ⟨b, (own b hb (e2.trans m1)).2.resolve_left fun z => hno (e1 ▸ z), e1, rfl⟩
  · rw [hp, mem_pastOf] at hj
    obtain ⟨b, hb, e1, e2⟩ := hj
    refine ⟨b, C.sub b hb, e2, e1, fun k hk => ?_⟩
    obtain ⟨c, hc, f1, f2, _⟩ := O.ok.pst b (C.sub b hb) k hk
    rw [hp, mem_pastOf]
    exact ⟨c, C.cl b hb c hc (by rw [f1]; exact hk), f2.trans e1, f1⟩
  · unfold Rg; omega
  · rcases hex with e | ⟨c, hc, e⟩
    · exact .inl e
    · obtain ⟨d, hd, f1, f2, f3⟩ := O.ok.made c (C.sub c hc)
      refine .inr ⟨d, hd, f1.trans e, f2.trans e, ?_⟩
      rw [hp, mem_pastOf]
      rcases f3 with rfl | f3
      · exact ⟨d, hc, e, rfl⟩
      · exact ⟨d, C.cl c hc d hd f3, f2.trans e, rfl⟩
theorem WOk.acted (O : WOk W) (hi : i < W.m) {a : Act} {E : List (Mk × Fl)} (N : NewAct W.A a) (ix : a.idx = W.V.length) (hno : ¬ W.out a.which) (mk : a.mark = (W.num i, W.ct i + 1)) (hp : a.past = pastOf (W.S i) a.which) (hE : Shelf (W.S i ++ [a]) E) : WOk (W.acted i a E) := by
  have lt : ∀ c ∈ W.A, c.idx < W.V.length := fun c hc => (List.getElem?_eq_some_iff.mp (O.ix c hc)).1
  refine ⟨O.ok.new N, fun c hc => ?_, by show (W.A ++ [a]).length ≤ (W.V ++ [eAct a]).length; have := O.ln; simp; omega, fun j hj => ?_, fun j hj => ?_, O.nums, O.inj, fun c hc => ?_, fun w hw => ?_, fun w hw j hj => ?_, fun w hw p => ?_, fun j hj => ?_, O.m6⟩
  · show (W.V ++ [eAct a])[c.idx]? = _
    rcases mem_snoc.mp hc with h1 | rfl
    · rw [List.getElem?_append_left (lt c h1)]; exact O.ix c h1
    · rw [ix]; simp
  · show Closed (W.A ++ [a]) (up W.S i (W.S i ++ [a]) j)
    by_cases e : j = i
    · subst e
      rw [up_same]
      refine (O.cl j hj).new O.ok N fun k hk => ?_
      rw [hp, mem_pastOf] at hk
      obtain ⟨b, hb, _, e⟩ := hk
      exact ⟨b, hb, e⟩
    · rw [up_ne e]
      exact (O.cl j hj).more O.ok N
  · show Shelf (up W.S i (W.S i ++ [a]) j) (up W.E i E j)
    by_cases e : j = i
    · subst e
      rw [up_same, up_same]; exact hE
    · rw [up_ne e, up_ne e]; exact O.sh j hj
  · have hc : c ∈ W.A ++ [a] := hc
    show ∃ j, j < W.m ∧ c.mark.1 = W.num j ∧ c.mark.2 ≤ up W.ct i (W.ct i + 1) j ∧ (W.out c.which ∨ c ∈ up W.S i (W.S i ++ [a]) j)
    rcases mem_snoc.mp hc with h1 | h1
    · obtain ⟨j, hj, h2, h3, h4⟩ := O.own c h1
      refine ⟨j, hj, h2, ?_, ?_⟩
      · by_cases e : j = i
        · subst e; rw [up_same]; omega
        · rw [up_ne e]; exact h3
      · refine h4.imp id fun h4 => ?_
        by_cases e : j = i
        · subst e; rw [up_same]; exact mem_snoc.mpr (.inl h4)
        · rw [up_ne e]; exact h4
    · subst h1
      exact ⟨i, hi, by rw [mk], by rw [mk, up_same]; exact Int.le_refl _, by rw [up_same]; exact .inr (mem_snoc.mpr (.inr rfl))⟩
  · obtain ⟨c, hc, e⟩ := O.oute w hw
    exact ⟨c, mem_snoc.mpr (.inl hc), e⟩
  · have hw : W.out w := hw
    have hne : a.which ≠ w := fun e => hno (e ▸ hw)
    have sub2 : ∀ c, c ∈ up W.S i (W.S i ++ [a]) j → c.which = w → c ∈ W.S j := fun c hc e => by
      by_cases z : j = i
      · subst z; rw [up_same] at hc
        rcases mem_snoc.mp hc with hc | rfl
        · exact hc
        · exact absurd e hne
      · rw [up_ne z] at hc; exact hc
    have sub1 : ∀ c, c ∈ W.S j → c ∈ up W.S i (W.S i ++ [a]) j := fun c hc => by
      by_cases z : j = i
      · subst z; rw [up_same]; exact mem_snoc.mpr (.inl hc)
      · rw [up_ne z]; exact hc
    rcases O.outs w hw j hj with k | k
    · refine .inl fun c hc e => sub1 c (k c ?_ e)
      rcases mem_snoc.mp hc with hc | rfl
      · exact hc
      · exact absurd e hne
    · exact .inr fun c hc e => k c (sub2 c hc e) e
  · have hw : W.out w := hw
    have hne : a.which ≠ w := fun e => hno (e ▸ hw)
    show ¬ Stands (W.A ++ [a]) w Kind.tx Kind.offT p
    rintro ⟨c, hc, e1, e2, e3, e4⟩
    rcases mem_snoc.mp hc with hc | rfl
    · exact O.outg w hw p ⟨c, hc, e1, e2, e3, fun d hd => e4 d (mem_snoc.mpr (.inl hd))⟩
    · exact hne e1
  · have hj : j < W.m := hj
    have := O.ct0 j hj
    show 0 ≤ up W.ct i (W.ct i + 1) j ∧ up W.ct i (W.ct i + 1) j ≤ ((W.V ++ [eAct a]).length : Nat)
    rw [List.length_append, List.length_singleton]
    by_cases e : j = i
    · subst e; rw [up_same]; omega
    · rw [up_ne e]; omega
/-- its own act on a file that it has -/
theorem shelf_act (O : WOk W) (hi : i < W.m) {a : Act} {F : Fl} (N : NewAct W.A a) (hp : a.past = pastOf (W.S i) a.which) (hk : a.kind ≠ .make) (hF : getM (W.E i) a.which = some F) : Shelf (W.S i ++ [a]) (puM (W.E i) a.which (actF F a)) := by
  obtain ⟨hex, L, n, g⟩ := (O.sh i hi).ok _ _ hF
  have C := O.cl i hi
  have hall : ∀ b ∈ W.S i, b.which = a.which → b.idx ∈ a.past := fun b hb e => by rw [hp, mem_pastOf]; exact ⟨b, hb, e, rfl⟩
  refine (O.sh i hi).mk2 (U := W.S i ++ [a]) (w := a.which) (fun w' e G hG => hG.other O.ok C (fun z => e z.symm)) (fun x hx => ?_) (fun x hx => mem_snoc.mpr (.inl hx)) ⟨a, mem_snoc.mpr (.inr rfl), rfl⟩ (L.act O.ok N C rfl hall hk g.known.nd hex) (g.act N hk L.id)
  rcases mem_snoc.mp hx with h | h
  · exact .inl h
  · exact .inr (by rw [h])
theorem shelf_make (O : WOk W) (hi : i < W.m) {a : Act} (N : NewAct W.A a) (hk : a.kind = .make) (hm : a.mark = a.which) (hno : ∀ b ∈ W.S i, b.which ≠ a.which) : Shelf (W.S i ++ [a]) (puM (W.E i) a.which (makeF a.mark a.first a.what)) := by
  have C := O.cl i hi
  refine (O.sh i hi).mk2 (U := W.S i ++ [a]) (w := a.which) (fun w' e G hG => hG.other O.ok C (fun z => e z.symm)) (fun x hx => ?_) (fun x hx => mem_snoc.mpr (.inl hx)) ⟨a, mem_snoc.mpr (.inr rfl), rfl⟩ (IsLeaf.make O.ok N C rfl hm hk hno) (Gd.make (n := 0) N hk)
  rcases mem_snoc.mp hx with h | h
  · exact .inl h
  · exact .inr (by rw [h])
/-- how it stands after an act -/
theorem WAt.acted {h1 : HM} {a : Act} {E : List (Mk × Fl)} (H : WAt D W h) (hi : i < W.m) (H1 : HE h1 (D.ha i) (W.num i) (W.ct i + 1) E) (len : h1.length = h.length)
    (fr : ∀ k, k ≠ D.ha i → k ≠ D.ha i + 1 → k ≠ D.cs → h1[k]? = h[k]?) (cs : h1[D.cs]? = some (.lst ((List.range W.m).map fun j => .int (up W.ct i (W.ct i + 1) j)))) :
    WAt D (W.acted i a E) ((h1.set (D.ba i) (.dK (kvB (W.S i ++ [a])))).set (D.as) (.lst (W.V ++ [eAct a]))) := by
  have la : D.as < h.length := (List.getElem?_eq_some_iff.mp H.as).1
  have lb : D.ba i < h.length := (List.getElem?_eq_some_iff.mp (H.bk i hi)).1
  obtain ⟨l1, l2, l3, l4, l5, l6, sha, sba, shb, shh, sbb⟩ := H.sp
  obtain ⟨z1, z2, z3, z4⟩ := sha i hi _ (.inl rfl)
  obtain ⟨y1, y2, y3, y4⟩ := sha i hi _ (.inr rfl)
  obtain ⟨x1, x2, x3, x4⟩ := sba i hi
  obtain ⟨u1, u2⟩ := shb i hi i hi
  refine ⟨?_, ?_, ?_, ?_, fun j hj => ?_, fun j hj => ?_, H.sp⟩
  · show ((h1.set _ _).set _ _)[D.hs]? = _
    rw [List.getElem?_set_ne (by first | assumption | (apply Ne.symm; assumption) | omega), List.getElem?_set_ne (by first | assumption | (apply Ne.symm; assumption) | omega), fr _ (by first | assumption | (apply Ne.symm; assumption) | omega) (by first | assumption | (apply Ne.symm; assumption) | omega) (by first | assumption | (apply Ne.symm; assumption) | omega)]
    exact H.hs
  · show ((h1.set _ _).set _ _)[D.cs]? = _
    rw [List.getElem?_set_ne (by first | assumption | (apply Ne.symm; assumption) | omega), List.getElem?_set_ne (by first | assumption | (apply Ne.symm; assumption) | omega)]
    exact cs
  · show ((h1.set _ _).set _ _)[D.as]? = _
    rw [List.getElem?_set_self (by simpa [len] using la)]
    rfl
  · show ((h1.set _ _).set _ _)[D.bs]? = _
    rw [List.getElem?_set_ne (by first | assumption | (apply Ne.symm; assumption) | omega), List.getElem?_set_ne (by first | assumption | (apply Ne.symm; assumption) | omega), fr _ (by first | assumption | (apply Ne.symm; assumption) | omega) (by first | assumption | (apply Ne.symm; assumption) | omega) (by first | assumption | (apply Ne.symm; assumption) | omega)]
    exact H.bs
  · have hj : j < W.m := hj
    show HE ((h1.set _ _).set _ _) (D.ha j) (W.num j) (up W.ct i (W.ct i + 1) j) (up W.E i E j)
    obtain ⟨z1', z2', z3', z4'⟩ := sha j hj _ (.inl rfl)
    obtain ⟨y1', y2', y3', y4'⟩ := sha j hj _ (.inr rfl)
    obtain ⟨u1', u2'⟩ := shb j hj i hi
    refine (HE.set ?_ (by first | assumption | (apply Ne.symm; assumption) | omega) (by first | assumption | (apply Ne.symm; assumption) | omega)).set (by first | assumption | (apply Ne.symm; assumption) | omega) (by first | assumption | (apply Ne.symm; assumption) | omega)
    by_cases e : j = i
    · subst e
      rw [up_same, up_same]; exact H1
    · rw [up_ne e, up_ne e]
      obtain ⟨D', e1, q⟩ := H.hh j hj
      have s0 := shh i hi j hj (fun z => e z.symm)
      exact ⟨D', e1, ⟨by rw [fr _ (by first | assumption | (apply Ne.symm; assumption) | omega) (by first | assumption | (apply Ne.symm; assumption) | omega) (by first | assumption | (apply Ne.symm; assumption) | omega)]; exact q.ins, by rw [fr _ (by first | assumption | (apply Ne.symm; assumption) | omega) (by first | assumption | (apply Ne.symm; assumption) | omega) (by first | assumption | (apply Ne.symm; assumption) | omega)]; exact q.sh⟩⟩
  · have hj : j < W.m := hj
    obtain ⟨x1', x2', x3', x4'⟩ := sba j hj
    obtain ⟨u1', u2'⟩ := shb i hi j hj
    show ((h1.set _ _).set _ _)[D.ba j]? = some (.dK (kvB (up W.S i (W.S i ++ [a]) j)))
    rw [List.getElem?_set_ne (by first | assumption | (apply Ne.symm; assumption) | omega)]
    by_cases e : j = i
    · subst e
      rw [up_same, List.getElem?_set_self (by first | assumption | (apply Ne.symm; assumption) | omega)]
    · have s0 := sbb i hi j hj (fun z => e z.symm)
      rw [up_ne e, List.getElem?_set_ne (by first | assumption | (apply Ne.symm; assumption) | omega), fr _ (by first | assumption | (apply Ne.symm; assumption) | omega) (by first | assumption | (apply Ne.symm; assumption) | omega) (by first | assumption | (apply Ne.symm; assumption) | omega)]
      exact H.bk j hj
end
end
end MM
namespace MM
open PySem L2 PySem.W
noncomputable section
def deedIf : SM := (sIf (tOrM (tOf (e2 vEq (eVar 10) (eC (.str (kindS .make))))) (tNotM (tTru (eVar 8)))) (sSeq (sAsg (eCall s_law_same (aCons (eMeth 0 m_House_make (e2 vIx (eVar 2) (eVar 7)) (aCons (eVar 11) (aCons (eVar 12) (aNil)))) (aCons (eVar 13) (aNil)))) (gNm 14))
  (sSeq (sAsg (eDisp mkTup (aCons (eVar 13) (aCons (eVar 11) (aNil)))) (gNm 9))
  (sAsg (eC (.str (kindS .make))) (gNm 10)))) (sSeq (sAsg (e2 vIx (eVar 8) (eCall m_law_mix (aCons (eVar 1) (aCons (eC (.int 9851)) (aCons (eBi bLen (aCons (eVar 8) (aNil))) (aNil)))))) (gNm 9))
  (sIf (tOf (e2 vEq (eVar 10) (eC (.str (kindS .write))))) (sAsg (e2 vIs (eMeth 0 m_House_write (e2 vIx (eVar 2) (eVar 7)) (aCons (e2 vIx (eVar 9) (eC (.int 0))) (aCons (eVar 12) (aNil)))) (eC .non)) (gNm 14)) (sIf (tOf (e2 vEq (eVar 10) (eC (.str (kindS .rename))))) (sSeq (sAsg (e2 vIs (eMeth 0 m_House_rename (e2 vIx (eVar 2) (eVar 7)) (aCons (e2 vIx (eVar 9) (eC (.int 0))) (aCons (eVar 11) (aNil)))) (eC .non)) (gNm 14))
  (sAsg (eVar 11) (gNm 12))) (sAsg (e2 vIs (eMeth 0 m_House_drop (e2 vIx (eVar 2) (eVar 7)) (aCons (e2 vIx (eVar 9) (eC (.int 0))) (aNil))) (eC .non)) (gNm 14))))))
theorem deed_eq : m_law_deed = mF 17 (sSeq (sAsg (eVar 0) (gTp 5 (gsCons (gNm 2) (gsCons (gNm 3) (gsCons (gNm 4) (gsCons (gNm 5) (gsCons (gNm 6) (gsNil))))))))
  (sSeq (sAsg (e2 vMod (eVar 1) (eBi bLen (aCons (eVar 2) (aNil)))) (gNm 7))
  (sSeq (sAsg (eLc (iVal (eCall m_law_files (aCons (eVar 0) (aCons (eVar 7) (aNil))))) (gNm 9) (tTru (e2 vIx (eVar 9) (eC (.int 4)))) (eVar 9) [9] frozen) (gNm 8))
  (sSeq (sAsg (e2 vIx (eDisp mkTup (aCons (eC (.str (kindS .make))) (aCons (eC (.str (kindS .write))) (aCons (eC (.str (kindS .rename))) (aCons (eC (.str (kindS .write))) (aCons (eC (.str (kindS .rename))) (aCons (eC (.str (kindS .drop))) (aNil)))))))) (eCall m_law_mix (aCons (eVar 1) (aCons (eC (.int 9857)) (aCons (eC (.int 6)) (aNil)))))) (gNm 10))
  (sSeq (sAsg (eCall m_law_name (aCons (e2 vAdd (eVar 1) (eC (.int 1))) (aNil))) (gNm 11))
  (sSeq (sAsg (eCall m_law_text (aCons (e2 vAdd (eVar 1) (eC (.int 2))) (aNil))) (gNm 12))
  (sSeq (sSub (eVar 4) (eVar 7) (e2 vAdd (e2 vIx (eVar 4) (eVar 7)) (eC (.int 1))))
  (sSeq (sAsg (eDisp mkTup (aCons (e2 vIx (eVar 3) (eVar 7)) (aCons (e2 vIx (eVar 4) (eVar 7)) (aNil)))) (gNm 13))
  (sSeq deedIf restD))))))))) := rfl
section
variable {D : Loci} {W : Wo} {h : HM} {i : Nat}
/-- the files that live, as the law lists them -/
theorem lc_lives {E : List (Mk × Fl)} {l : Loc} {h : HM} {te : EM} {g : GM} {tt : TM} (G : Mk → Val) (hl : E.length ≤ 1000) (ht : ∀ w F, getM E w = some F → ∃ l1, g (eB (F, false)) l = some l1 ∧ tt l1 h = .ok (!decide (F.texts = [])) h ∧ te l1 h = .ok (G w) h) :
    lcL (srcItems ((srt (E.map (·.1))).map (fileV2 E))) g tt te l (srcItems ((srt (E.map (·.1))).map (fileV2 E))).len 0 h [] = .ok (((srt (E.map (·.1))).filter fun w => !deadE E w).map G) h := by
  refine lc_filterM (fun w => !deadE E w) G (fun w hw => ?_) (by rw [sizeLine_eq, srt_len]; simp; omega)
  have hw2 := mem_keysM.mp (srt_mem.mp hw)
  rw [hasM_get, Option.isSome_iff_exists] at hw2
  obtain ⟨F, hF⟩ := hw2
  obtain ⟨l1, a, c, d⟩ := ht w F hF
  exact ⟨l1, by simp only [fileV2, hF]; exact a, by simp only [deadE, hF]; exact c, fun _ => d⟩
theorem tru_texts {F : Fl} {h : HM} : truV (.tup (F.texts.map eW)) h = .ok (!decide (F.texts = [])) h := by cases F.texts <;> rfl
/-- which act it is -/
def kindOf (q : Int) : Kind := if q = 0 then .make else if q = 1 ∨ q = 3 then .write else if q = 2 ∨ q = 4 then .rename else .drop
def liveK (E : List (Mk × Fl)) : List Mk := (srt (E.map (·.1))).filter fun w => !deadE E w
def DeedIs (W : Wo) (c : Int) (i : Nat) (a : Act) : Prop := (i : Int) = c % (W.m : Nat) ∧
  (((kindOf (mix c 9857 6) = .make ∨ liveK (W.E i) = []) ∧ a = Act.mk W.V.length (W.num i, W.ct i + 1) (W.num i, W.ct i + 1) .make (sg (ltext (c + 2))) (pastOf (W.S i) (W.num i, W.ct i + 1)) (sg (lname (c + 1)))) ∨
   (¬ (kindOf (mix c 9857 6) = .make ∨ liveK (W.E i) = []) ∧ ∃ w F, (liveK (W.E i))[(mix c 9851 ((liveK (W.E i)).length : Nat)).toNat]? = some w ∧ getM (W.E i) w = some F ∧
      a = Act.mk W.V.length w (W.num i, W.ct i + 1) (kindOf (mix c 9857 6)) (if kindOf (mix c 9857 6) = .rename then sg (lname (c + 1)) else sg (ltext (c + 2))) (pastOf (W.S i) w) F.first))
theorem kinds_at {q : Int} (h0 : 0 ≤ q) (h1 : q < 6) : ∀ h, vIx (.tup [.str (kindS .make), .str (kindS .write), .str (kindS .rename), .str (kindS .write), .str (kindS .rename), .str (kindS .drop)]) (.int q) h = .ok (.str (kindS (kindOf q))) h := by
  have : q = 0 ∨ q = 1 ∨ q = 2 ∨ q = 3 ∨ q = 4 ∨ q = 5 := by omega
  rcases this with rfl | rfl | rfl | rfl | rfl | rfl <;> exact fun h => rfl
/-- a file that lives anywhere is not forgotten for good -/
theorem WOk.live_in (O : WOk W) (hi : i < W.m) {w : Mk} {F : Fl} (hF : getM (W.E i) w = some F) (hx : F.texts ≠ []) : ¬ W.out w := fun z => by
  obtain ⟨⟨c, hc, hcw⟩, L, _⟩ := (O.sh i hi).ok w F hF
  have C := O.cl i hi
  obtain ⟨p, hp⟩ : ∃ p, p ∈ F.texts := List.exists_mem_of_ne_nil _ hx
  obtain ⟨a, ha, e1, e2, e3, e4⟩ := (L.texts p).mp hp
  rcases O.outs w z i hi with k | k
  · exact O.outg w z p ⟨a, C.sub a ha, e1, e2, e3, fun b hb hbw => e4 b (k b hb hbw) hbw⟩
  · exact k c hc hcw
theorem at_deedI (O : WOk W) (H : WAt D W h) (hm : 0 < W.m) (hl : W.V.length < 60) (c : Int) :
    ∃ i a E h', i < W.m ∧ m_law_deed [stV D W.m W.num, .int c] h = .ok (.bl true) h' ∧ WAt D (W.acted i a E) h' ∧ WOk (W.acted i a E) ∧ Frm D W.m h h' ∧ DeedIs W c i a := by
  have lnA := O.ln
  obtain ⟨l1, l2, l3, l4, l5, l6, sha, sba, shb, shh, sbb⟩ := H.sp
  -- who
  obtain ⟨i, hiI, hi⟩ : ∃ i : Nat, (i : Int) = c % (W.m : Nat) ∧ i < W.m := by
    have h0 := Int.emod_nonneg c (b := (W.m : Int)) (by omega)
    have h1 := Int.emod_lt_of_pos c (b := (W.m : Int)) (by omega)
    exact ⟨(c % (W.m : Int)).toNat, by omega, by omega⟩
  have lh := len_ref H.hs
  rw [List.length_map, List.length_range] at lh
  have md : ∀ h : HM, vMod (.int c) (.int (W.m : Nat)) h = .ok (.int (i : Nat)) h := fun h => by rw [ev_modI (by omega), hiI]
  obtain ⟨z1, z2, z3, z4⟩ := sha i hi _ (.inl rfl)
  obtain ⟨y1, y2, y3, y4⟩ := sha i hi _ (.inr rfl)
  obtain ⟨x1, x2, x3, x4⟩ := sba i hi
  obtain ⟨u1, u2⟩ := shb i hi i hi
  -- the files
  obtain ⟨g1, ef⟩ := at_filesW O H (by omega) hi
  have C := O.cl i hi
  have Sh := O.sh i hi
  have lE := Sh.len C
  have lcV : ∀ hq : HM, lcL (srcItems ((srt ((W.E i).map (·.1))).map (fileV2 (W.E i)))) (gNm 9) (tTru (e2 vIx (eVar 9) (eC (.int 4)))) (eVar 9) [some (stV D W.m W.num), some (.int c), some (.ref (D.hs)), some (.lst ((List.range W.m).map fun i => .int (W.num i))), some (.ref (D.cs)), some (.ref (D.as)), some (.ref (D.bs)), some (.int (i : Nat)), none, none, none, none, none, none, none, none, none] (srcItems ((srt ((W.E i).map (·.1))).map (fileV2 (W.E i)))).len 0 hq [] = .ok (((srt ((W.E i).map (·.1))).filter fun w => !deadE (W.E i) w).map (fileV2 (W.E i))) hq := fun hq =>
    lc_lives (fileV2 (W.E i)) (by omega) fun w F hF => ⟨_, rfl, by
      have x4 : ∀ h, vIx (eB (F, false)) (.int 4) h = .ok (.tup (F.texts.map eW)) h := fun h => rfl
      simp only [ev_tTru, ev_e2, ev_C, Res.bind_ok]
      show (vIx (eB (F, false)) (.int 4) hq).bind truV = _
      rw [x4, Res.bind_ok, tru_texts], by simp only [fileV2, hF]; rfl⟩
  have vmem : ∀ w ∈ (srt ((W.E i).map (·.1))).filter (fun w => !deadE (W.E i) w), ∃ F, getM (W.E i) w = some F ∧ F.texts ≠ [] := fun w hw => by
    rw [List.mem_filter] at hw
    have hw2 := mem_keysM.mp (srt_mem.mp hw.1)
    rw [hasM_get, Option.isSome_iff_exists] at hw2
    obtain ⟨F, hF⟩ := hw2
    refine ⟨F, hF, ?_⟩
    have := hw.2
    simp only [deadE, hF, Bool.not_eq_true', decide_eq_false_iff_not] at this
    exact this
  generalize hV : (srt ((W.E i).map (·.1))).filter (fun w => !deadE (W.E i) w) = V at lcV vmem
  -- what
  have km : ∀ h, m_law_mix [.int c, .int 9857, .int 6] h = .ok (.int (mix c 9857 6)) h := fun h => at_mix (by decide) (by decide)
  have kk := kinds_at (mix_nn (c := c) (p := 9857) (m := 6) (by decide)) (mix_lt (c := c) (p := 9857) (m := 6) (by decide))
  have hLV : liveK (W.E i) = V := hV
  have D1 : (kindOf (mix c 9857 6) = .make ∨ V = []) → DeedIs W c i (Act.mk W.V.length (W.num i, W.ct i + 1) (W.num i, W.ct i + 1) .make (sg (ltext (c + 2))) (pastOf (W.S i) (W.num i, W.ct i + 1)) (sg (lname (c + 1)))) := fun z => ⟨hiI, .inl ⟨by rw [hLV]; exact z, rfl⟩⟩
  have D2 : ¬ (kindOf (mix c 9857 6) = .make ∨ V = []) → ∀ w F what, V[(mix c 9851 (V.length : Nat)).toNat]? = some w → getM (W.E i) w = some F → what = (if kindOf (mix c 9857 6) = .rename then sg (lname (c + 1)) else sg (ltext (c + 2))) → DeedIs W c i (Act.mk W.V.length w (W.num i, W.ct i + 1) (kindOf (mix c 9857 6)) what (pastOf (W.S i) w) F.first) := fun z w F what h1 h2 h3 => ⟨hiI, .inr ⟨by rw [hLV]; exact z, w, F, by rw [hLV]; exact h1, h2, by rw [h3]⟩⟩
  generalize kindOf (mix c 9857 6) = kd at *
  generalize mix c 9857 6 = q0 at km kk
  have nx : ∀ h, m_law_name [.int (c + 1)] h = .ok (.str (sg (lname (c + 1)))) h := fun h => at_name
  have tx : ∀ h, m_law_text [.int (c + 2)] h = .ok (.str (sg (ltext (c + 2)))) h := fun h => at_text
  have nok := lname_ok (c + 1)
  have tok := ltext_ok (c + 2)
  have nis := isName_lname (c + 1)
  have tis := isText_ltext (c + 2)
  have nlen : (sg (lname (c + 1))).length ≤ 1000000 := by have := (lname_len (c + 1)).2; simp; omega
  have tlen : (sg (ltext (c + 2))).length ≤ 1000000 := by have := ltext_len (c + 2); simp; omega
  generalize sg (lname (c + 1)) = x at *
  generalize sg (ltext (c + 2)) = y at *
  -- the count
  have Hg : WAt D W (h ++ g1) := H.app
  have c1 := ix_range (h := h ++ g1) Hg.cs hi
  have s1 := set_range (v := .int (W.ct i + 1)) Hg.cs hi
  have csl : D.cs < (h ++ g1).length := (List.getElem?_eq_some_iff.mp Hg.cs).1
  have ufn : (fun j => Val.int (up W.ct i (W.ct i + 1) j)) = up (fun j => Val.int (W.ct j)) i (.int (W.ct i + 1)) := by
    funext j
    unfold up
    split <;> rfl
  rw [← ufn] at s1
  have cs2 : ((h ++ g1).set (D.cs) (.lst ((List.range W.m).map fun j => .int (up W.ct i (W.ct i + 1) j))))[D.cs]? = some (.lst ((List.range W.m).map fun j => .int (up W.ct i (W.ct i + 1) j))) := List.getElem?_set_self csl
  have c2 := ix_range cs2 hi
  rw [up_same] at c2
  have n2 : ∀ h, vIx (.lst ((List.range W.m).map fun i => .int (W.num i))) (.int (i : Nat)) h = .ok (.int (W.num i)) h := fun h => ix_rangeL hi
  have Hi2 : HE ((h ++ g1).set (D.cs) (.lst ((List.range W.m).map fun j => .int (up W.ct i (W.ct i + 1) j)))) (D.ha i) (W.num i) (W.ct i) (W.E i) := (Hg.hh i hi).set (by first | assumption | (apply Ne.symm; assumption) | omega) (by first | assumption | (apply Ne.symm; assumption) | omega)
  have fr2 : ∀ k, k ≠ D.cs → ((h ++ g1).set (D.cs) (.lst ((List.range W.m).map fun j => .int (up W.ct i (W.ct i + 1) j))))[k]? = (h ++ g1)[k]? := fun k hk => List.getElem?_set_ne (by first | assumption | (apply Ne.symm; assumption) | omega)
  have ln2 : ((h ++ g1).set (D.cs) (.lst ((List.range W.m).map fun j => .int (up W.ct i (W.ct i + 1) j)))).length = (h ++ g1).length := by simp
  generalize (h ++ g1).set (D.cs) (.lst ((List.range W.m).map fun j => .int (up W.ct i (W.ct i + 1) j))) = h2 at *
  have hs2 : vIx (.ref (D.hs)) (.int (i : Nat)) h2 = .ok (.ref (D.ha i)) h2 := ix_range (by have := fr2 (D.hs) (by first | assumption | (apply Ne.symm; assumption) | omega); rw [this]; exact Hg.hs) hi
  -- the head
  have head : ∀ (l' : Loc) (h3 h5 : HM), deedIf [some (stV D W.m W.num), some (.int c), some (.ref (D.hs)), some (.lst ((List.range W.m).map fun i => .int (W.num i))), some (.ref (D.cs)), some (.ref (D.as)), some (.ref (D.bs)), some (.int (i : Nat)), some (.lst (V.map (fileV2 (W.E i)))), none, some (.str (kindS kd)), some (.str x), some (.str y), some (eM (W.num i, W.ct i + 1)), none, none, none] h2 = .nx l' h3 → restD l' h3 = .rt (.bl true) h5 → m_law_deed [stV D W.m W.num, .int c] h = .ok (.bl true) h5 := fun l' h3 h5 e1 e2 => by
    have mt : ∀ h, mkTup [.int (W.num i), .int (W.ct i + 1)] h = .ok (eM (W.num i, W.ct i + 1)) h := fun h => ev_mkTup (by simp)
    have mt2 : ∀ h, mkTup [.str (kindS .make), .str (kindS .write), .str (kindS .rename), .str (kindS .write), .str (kindS .rename), .str (kindS .drop)] h = .ok (.tup [.str (kindS .make), .str (kindS .write), .str (kindS .rename), .str (kindS .write), .str (kindS .rename), .str (kindS .drop)]) h := fun h => ev_mkTup (by simp)
    have un : ∀ a2 a3 a4 a5 a6 l, gTp 5 (gsCons (gNm 2) (gsCons (gNm 3) (gsCons (gNm 4) (gsCons (gNm 5) (gsCons (gNm 6) (gsNil)))))) (stV D W.m W.num) (some (stV D W.m W.num) :: some (.int c) :: a2 :: a3 :: a4 :: a5 :: a6 :: l) = some (some (stV D W.m W.num) :: some (.int c) :: some (.ref (D.hs)) :: some (.lst ((List.range W.m).map fun i => .int (W.num i))) :: some (.ref (D.cs)) :: some (.ref (D.as)) :: some (.ref (D.bs)) :: l) := fun _ _ _ _ _ _ => rfl
    rw [deed_eq]
    unfold mF
    simp [un, lh, md, ef, srcOf, wipeL, lcV, mt2, km, kk, nx, tx, c1, s1, n2, c2, mt, e1, e2, -ev_mkTup]
  -- what every act comes to
  have fin : ∀ (w : Mk) (kd2 : Kind) (what first : Str) (file : Val) (h3 : HM) (E : List (Mk × Fl)) (live nme : Val),
      deedIf [some (stV D W.m W.num), some (.int c), some (.ref (D.hs)), some (.lst ((List.range W.m).map fun i => .int (W.num i))), some (.ref (D.cs)), some (.ref (D.as)), some (.ref (D.bs)), some (.int (i : Nat)), some (.lst (V.map (fileV2 (W.E i)))), none, some (.str (kindS kd)), some (.str x), some (.str y), some (eM (W.num i, W.ct i + 1)), none, none, none] h2 = .nx [some (stV D W.m W.num), some (.int c), some (.ref (D.hs)), some (.lst ((List.range W.m).map fun i => .int (W.num i))), some (.ref (D.cs)), some (.ref (D.as)), some (.ref (D.bs)), some (.int (i : Nat)), some live, some file, some (.str (kindS kd2)), some nme, some (.str what), some (eM (W.num i, W.ct i + 1)), some (.bl true), none, none] h3 →
      (∀ h, vIx file (.int 0) h = .ok (eM w) h) → (∀ h, vIx file (.int 1) h = .ok (.str first) h) → HE h3 (D.ha i) (W.num i) (W.ct i + 1) E → Fr (D.ha i) h2 h3 →
      WOk (W.acted i (Act.mk W.V.length w (W.num i, W.ct i + 1) kd2 what (pastOf (W.S i) w) first) E) →
      DeedIs W c i (Act.mk W.V.length w (W.num i, W.ct i + 1) kd2 what (pastOf (W.S i) w) first) →
      ∃ i a E h', i < W.m ∧ m_law_deed [stV D W.m W.num, .int c] h = .ok (.bl true) h' ∧ WAt D (W.acted i a E) h' ∧ WOk (W.acted i a E) ∧ Frm D W.m h h' ∧ DeedIs W c i a := by
    intro w kd2 what first file h3 E live nme e1 f0 f1 H3 fr O' DI
    have get3 : ∀ k, k ≠ D.ha i → k ≠ D.ha i + 1 → k ≠ D.cs → h3[k]? = (h ++ g1)[k]? := fun k k1 k2 k3 => by rw [fr.get k k1 k2, fr2 k k3]
    have hA3 : h3[D.as]? = some (.lst W.V) := by rw [get3 _ (by first | assumption | (apply Ne.symm; assumption) | omega) (by first | assumption | (apply Ne.symm; assumption) | omega) (by first | assumption | (apply Ne.symm; assumption) | omega)]; exact Hg.as
    have hB3 : h3[D.ba i]? = some (.dK (kvB (W.S i))) := by rw [get3 _ (by first | assumption | (apply Ne.symm; assumption) | omega) (by first | assumption | (apply Ne.symm; assumption) | omega) (by first | assumption | (apply Ne.symm; assumption) | omega)]; exact Hg.bk i hi
    have hb3 : h3[D.bs]? = some (.lst ((List.range W.m).map fun i => .ref (D.ba i))) := by rw [get3 _ (by first | assumption | (apply Ne.symm; assumption) | omega) (by first | assumption | (apply Ne.symm; assumption) | omega) (by first | assumption | (apply Ne.symm; assumption) | omega)]; exact Hg.bs
    have e2 := at_restD (st := stV D W.m W.num) (c := .int c) (hs := .ref (D.hs)) (nm := .lst ((List.range W.m).map fun i => .int (W.num i))) (cs := .ref (D.cs)) (live := live) (nme := nme) (kd := kd2) (what := what) (mk := (W.num i, W.ct i + 1)) (at_ := i) (nbs := D.bs) O.ok O.ix C (by omega) (by omega) hA3 hB3 (fun h' e => ix_range (e.trans hb3) hi) (by first | assumption | (apply Ne.symm; assumption) | omega) f0 f1
    refine ⟨i, _, E, _, hi, head _ _ _ e1 e2, ?_, O', ?_, DI⟩
    rotate_left
    · refine ⟨by simp [fr.len, ln2], fun q hq hb => ?_⟩
      have w1 := hb.as
      have w2 := hb.ba i hi
      have w3 := (hb.ha i hi).1
      have w4 := (hb.ha i hi).2
      have w5 := hb.cs
      rw [List.getElem?_set_ne (by first | assumption | (apply Ne.symm; assumption) | omega), List.getElem?_set_ne (by first | assumption | (apply Ne.symm; assumption) | omega), get3 q (by first | assumption | (apply Ne.symm; assumption) | omega) (by first | assumption | (apply Ne.symm; assumption) | omega) (by first | assumption | (apply Ne.symm; assumption) | omega), List.getElem?_append_left hq]
    exact Hg.acted hi H3 (by rw [fr.len, ln2]) get3 (by rw [fr.get _ (by first | assumption | (apply Ne.symm; assumption) | omega) (by first | assumption | (apply Ne.symm; assumption) | omega)]; exact cs2)
  have isM : isIns 0 (.ref (D.ha i)) h2 = true := Hi2.isI
  have n0 := O.nums i hi
  have ct0 := O.ct0 i hi
  have rgm : Rg (W.num i, W.ct i + 1) := by unfold Rg; show 0 ≤ W.num i ∧ W.num i ≤ 5 ∧ 1 ≤ W.ct i + 1; omega
  have ek : ∀ k h, vEq (.str (kindS kd)) (.str (kindS k)) h = .ok (.bl (decide (kd = k))) h := fun k h => by
    rw [eq_str (kindS_ok _) (kindS_ok _)]
    congr 2
    rw [decide_eq_decide]
    exact ⟨kindS_inj, fun e => by rw [e]⟩
  by_cases hk : kd = .make ∨ V = []
  · have hif : ∀ h : HM, (if decide (kd = Kind.make) = true then (Res.ok true h : Res Bool) else Res.ok (!(!(V.map (fileV2 (W.E i))).isEmpty)) h) = .ok true h := fun h => by rcases hk with e | e <;> simp [e]
    obtain ⟨h3, e3, H3, fr⟩ := he_make Hi2 nis tis nlen tlen (by omega)
    -- no act on this file yet
    have hno : ∀ c ∈ W.S i, c.which ≠ (W.num i, W.ct i + 1) := fun c hc e => by
      obtain ⟨d, hd, f1, _⟩ := O.ok.made c (C.sub c hc)
      rw [e] at f1
      obtain ⟨j, hj, h1, h2, _⟩ := O.own d hd
      rw [f1] at h1 h2
      have := O.inj i hi j hj h1
      subst this
      simp at h2
      omega
    have hnoA : ∀ c ∈ W.A, c.which ≠ (W.num i, W.ct i + 1) := fun c hc e => by
      obtain ⟨d, hd, f1, _⟩ := O.ok.made c hc
      rw [e] at f1
      obtain ⟨j, hj, h1, h2, _⟩ := O.own d hd
      rw [f1] at h1 h2
      have := O.inj i hi j hj h1
      subst this
      simp at h2
      omega
    have hnoO : ¬ W.out (W.num i, W.ct i + 1) := fun z => by
      obtain ⟨c, hc, e⟩ := O.oute _ z
      exact hnoA c hc e
    have N : NewAct W.A (Act.mk W.V.length (W.num i, W.ct i + 1) (W.num i, W.ct i + 1) .make y (pastOf (W.S i) (W.num i, W.ct i + 1)) x) :=
      O.new hi rfl hnoO rfl rfl (fun b hb e => absurd e (hnoA b hb)) rgm ⟨nis, nok⟩ tok (fun e => (by cases e)) (fun _ => tis) (.inl rfl)
    have O' := O.acted hi N rfl hnoO rfl rfl (shelf_make O hi N rfl rfl hno)
    refine fin (W.num i, W.ct i + 1) .make y x (.tup [eM (W.num i, W.ct i + 1), .str x]) h3 _ (.lst (V.map (fileV2 (W.E i)))) (.str x) ?_ (fun h => rfl) (fun h => rfl) H3 fr O' (D1 hk)
    unfold deedIf
    simp only [ev_sIf, ev_tOr, ev_tOf, ev_e2, ev_VarS, ev_Var0, ev_C, Res.bind_ok, ek, ev_toB, ev_tNot, ev_tTru, ev_truL, hif, Res.thn_ok, if_true]
    simp [hs2, isM, e3, same_mark]
  · have hif : ∀ h : HM, (if decide (kd = Kind.make) = true then (Res.ok true h : Res Bool) else Res.ok (!(!(V.map (fileV2 (W.E i))).isEmpty)) h) = .ok false h := fun h => by
      rw [not_or] at hk
      simp [hk.1, hk.2]
    have hv : 0 < V.length := List.length_pos_iff.mpr fun e => hk (.inr e)
    have m0 := mix_nn (c := c) (p := 9851) (m := (V.length : Int)) (by omega)
    have m1 := mix_lt (c := c) (p := 9851) (m := (V.length : Int)) (by omega)
    have kmV : ∀ h, m_law_mix [.int c, .int 9851, .int (V.length : Nat)] h = .ok (.int (mix c 9851 V.length)) h := fun h => at_mix (by decide) (by omega)
    have D3 := D2 hk
    generalize mix c 9851 V.length = j at m0 m1 kmV D3
    have hj : j.toNat < V.length := by omega
    have hjV : V[j.toNat]? = some V[j.toNat] := List.getElem?_eq_getElem hj
    obtain ⟨F, hF, hx⟩ := vmem V[j.toNat] (List.getElem_mem hj)
    have kx : ∀ h, vIx (.lst (V.map (fileV2 (W.E i)))) (.int j) h = .ok (eB (F, false)) h := fun h => by
      have : (V.map (fileV2 (W.E i)))[j.toNat]? = some (eB (F, false)) := by simp [hj, fileV2, hF]
      simp only [vIx, atI_nat m0, this]
      rfl
    generalize V[j.toNat] = w at hF hjV
    obtain ⟨hex, L, nn, g⟩ := Sh.ok w F hF
    have nd1 := g.known.nd
    have lk1 : F.known.length ≤ 1000 := by have := g.known.len; omega
    have i0 : ∀ h, vIx (eB (F, false)) (.int 0) h = .ok (eM w) h := fun h => by rw [← L.id]; rfl
    have i1 : ∀ h, vIx (eB (F, false)) (.int 1) h = .ok (.str F.first) h := fun h => rfl
    have lnV : ∀ h, bLen [.lst (V.map (fileV2 (W.E i)))] h = .ok (.int (V.length : Nat)) h := fun h => by
      have : (V.map (fileV2 (W.E i))).length = V.length := by simp
      rw [ev_lenL, this]
    have first : ∀ b ∈ W.A, b.which = w → b.first = F.first := fun b hb e => by
      obtain ⟨c, hc, hcw⟩ := hex
      rw [L.first c hc hcw]
      exact O.ok.first b hb c (C.sub c hc) (e.trans hcw.symm)
    have rgw : Rg w := by have := g.id; rw [L.id] at this; exact this
    have hnoO : ¬ W.out w := fun z => O.live_in hi hF hx z
    have N : ∀ (k : Kind) (what : Str), PyData.strOk what = true → (k.nm = true → isName (.str what) = true) → (k.tx = true → isText (.str what) = true) → NewAct W.A (Act.mk W.V.length w (W.num i, W.ct i + 1) k what (pastOf (W.S i) w) F.first) := fun k what wt wn wx =>
      O.new hi rfl hnoO rfl rfl first rgw ⟨g.first, g.fok⟩ wt wn wx (.inr hex)
    rw [not_or] at hk
    have O' : ∀ (k : Kind) (what : Str), k ≠ .make → PyData.strOk what = true → (k.nm = true → isName (.str what) = true) → (k.tx = true → isText (.str what) = true) → WOk (W.acted i (Act.mk W.V.length w (W.num i, W.ct i + 1) k what (pastOf (W.S i) w) F.first) (puM (W.E i) w (actF F (Act.mk W.V.length w (W.num i, W.ct i + 1) k what (pastOf (W.S i) w) F.first)))) := fun k what hne wt wn wx =>
      O.acted hi (N k what wt wn wx) rfl hnoO rfl rfl (shelf_act O hi (N k what wt wn wx) rfl hne hF)
    have evs := @ev_sIf
    by_cases k2 : kd = .write
    · subst k2
      obtain ⟨h3, e3, H3, fr⟩ := he_write Hi2 hF L.id hx tis tlen nd1 lk1 (by omega)
      refine fin w .write y F.first (eB (F, false)) h3 _ (.lst (V.map (fileV2 (W.E i)))) (.str x) ?_ i0 i1 H3 fr (O' .write y (by decide) tok (fun e => (by cases e)) fun _ => tis) (D3 w F y hjV hF rfl)
      unfold deedIf
      rw [ev_sIf]
      simp only [ev_tOr, ev_tOf, ev_e2, ev_VarS, ev_Var0, ev_C, Res.bind_ok, ek, ev_toB, ev_tNot, ev_tTru, ev_truL, hif, Res.thn_ok, if_false, Bool.false_eq_true]
      simp [kmV, kx, ek, hs2, isM, e3, i0, -ev_lenL, lnV]
    · by_cases k3 : kd = .rename
      · subst k3
        obtain ⟨h3, e3, H3, fr⟩ := he_rename Hi2 hF L.id hx nis nlen nd1 lk1 (by omega)
        refine fin w .rename x F.first (eB (F, false)) h3 _ (.lst (V.map (fileV2 (W.E i)))) (.str x) ?_ i0 i1 H3 fr (O' .rename x (by decide) nok (fun _ => nis) fun e => (by cases e)) (D3 w F x hjV hF rfl)
        unfold deedIf
        rw [ev_sIf]
        simp only [ev_tOr, ev_tOf, ev_e2, ev_VarS, ev_Var0, ev_C, Res.bind_ok, ek, ev_toB, ev_tNot, ev_tTru, ev_truL, hif, Res.thn_ok, if_false, Bool.false_eq_true]
        simp [kmV, kx, ek, hs2, isM, e3, i0, -ev_lenL, lnV]
      · have k4 : kd = .drop := by cases kd <;> first | rfl | exact absurd rfl k2 | exact absurd rfl k3 | exact absurd rfl hk.1
        subst k4
        obtain ⟨h3, e3, H3, fr⟩ := he_drop Hi2 hF L.id hx nd1 lk1 (by omega)
        refine fin w .drop y F.first (eB (F, false)) h3 _ (.lst (V.map (fileV2 (W.E i)))) (.str x) ?_ i0 i1 H3 fr (O' .drop y (by decide) tok (fun e => (by cases e)) fun e => (by cases e)) (D3 w F y hjV hF rfl)
        unfold deedIf
        rw [ev_sIf]
        simp only [ev_tOr, ev_tOf, ev_e2, ev_VarS, ev_Var0, ev_C, Res.bind_ok, ek, ev_toB, ev_tNot, ev_tTru, ev_truL, hif, Res.thn_ok, if_false, Bool.false_eq_true]
        simp [kmV, kx, ek, hs2, isM, e3, i0, -ev_lenL, lnV]
end
end
end MM
namespace MM
open PySem L2 PySem.W
noncomputable section
def tell1 (S : List Act) (a : Act) : List Act := if a.idx ∈ S.map (·.idx) then S else S ++ [a]
def tellS (S G : List Act) (w : Mk) : List Act := (G.filter fun a => decide (a.which = w)).foldl tell1 S
section
variable {A S T G U : List Act} {w : Mk} {a : Act} {F F0 : Fl}
theorem put_kvB : putV (kvB S) (.inl (idxI a)) (.bl true) = kvB (tell1 S a) := by
  have h1 : ((kvB S).any fun kv => decide (kv.1 = (.inl (idxI a) : Key))) = decide (a.idx ∈ S.map (·.idx)) := by
    rw [Bool.eq_iff_iff, List.any_eq_true, decide_eq_true_eq, List.mem_map]
    constructor
    · rintro ⟨p, hp, e⟩
      unfold kvB at hp
      obtain ⟨x, hx, rfl⟩ := List.mem_map.mp hp
      have : idxI x = idxI a := Sum.inl.inj (of_decide_eq_true e)
      exact ⟨x, hx, by unfold idxI at this; omega⟩
    · rintro ⟨x, hx, e⟩
      exact ⟨(.inl (idxI x), .bl true), List.mem_map_of_mem (f := fun a => ((.inl (idxI a) : Key), Val.bl true)) hx, by unfold idxI; rw [e]; simp⟩
  unfold putV tell1
  rw [h1]
  by_cases h : a.idx ∈ S.map (·.idx)
  · rw [if_pos (decide_eq_true h), if_pos h]
    conv => rhs; rw [← List.map_id (kvB S)]
    apply List.map_congr_left
    intro p hp
    unfold kvB at hp
    obtain ⟨x, hx, rfl⟩ := List.mem_map.mp hp
    dsimp only
    split <;> rfl
  · rw [if_neg (by simpa using h), if_neg h]
    simp [kvB]
theorem tell1_len : (tell1 S a).length ≤ S.length + 1 := by
  unfold tell1
  split <;> simp
theorem tell1_nd (h : (S.map (·.idx)).Nodup) : ((tell1 S a).map (·.idx)).Nodup := by
  unfold tell1
  split
  · exact h
  · rename_i q
    rw [List.map_append, List.nodup_append]
    exact ⟨h, by simp, fun x hx y hy e => by simp at hy; subst hy e; exact q hx⟩
theorem foldS : ∀ {L S : List Act}, (S.map (·.idx)).Nodup → ((L.foldl tell1 S).map (·.idx)).Nodup
  | [], S, h => h
  | a :: L, S, h => foldS (L := L) (tell1_nd h)
theorem foldS_mem (O : OkA A) : ∀ {L S : List Act}, (∀ x ∈ L, x ∈ A) → (∀ x ∈ S, x ∈ A) → ∀ x, x ∈ L.foldl tell1 S ↔ x ∈ S ∨ x ∈ L
  | [], S, _, _, x => by simp
  | a :: L, S, hL, hS, x => by
    have hmem : ∀ y, y ∈ tell1 S a ↔ y ∈ S ∨ y = a := fun y => by
      unfold tell1
      split
      · rename_i q
        obtain ⟨z, hz, e⟩ := List.mem_map.mp q
        have : z = a := O.inj (hS z hz) (hL a List.mem_cons_self) e
        subst this
        constructor
        · exact .inl
        · rintro (h | rfl)
          · exact h
          · exact hz
      · simp
    rw [List.foldl_cons, foldS_mem O (fun y hy => hL y (List.mem_cons_of_mem _ hy)) (fun y hy => by
      rcases (hmem y).mp hy with h | rfl
      · exact hS y h
      · exact hL _ List.mem_cons_self), hmem, List.mem_cons, or_assoc]
theorem foldS_len : ∀ {L S : List Act}, (L.foldl tell1 S).length ≤ S.length + L.length
  | [], S => by simp
  | a :: L, S => by
    have := foldS_len (L := L) (S := tell1 S a)
    have := tell1_len (S := S) (a := a)
    simp only [List.foldl_cons, List.length_cons]; omega
theorem tellS_mem (O : OkA A) (CS : Closed A S) (CG : Closed A G) (x : Act) : x ∈ tellS S G w ↔ x ∈ S ∨ (x ∈ G ∧ x.which = w) := by
  unfold tellS
  rw [foldS_mem O (fun y hy => CG.sub y (List.mem_filter.mp hy).1) CS.sub, List.mem_filter, decide_eq_true_eq]
theorem tellS_closed (O : OkA A) (CS : Closed A S) (CG : Closed A G) : Closed A (tellS S G w) := by
  refine ⟨fun x hx => ?_, fun b hb x hx hp => ?_, foldS CS.nd⟩
  · rcases (tellS_mem O CS CG x).mp hx with h | h
    · exact CS.sub x h
    · exact CG.sub x h.1
  · rw [tellS_mem O CS CG]
    rcases (tellS_mem O CS CG b).mp hb with h | h
    · exact .inl (CS.cl b h x hx hp)
    · refine .inr ⟨CG.cl b h.1 x hx hp, ?_⟩
      obtain ⟨y, hy, e1, e2, _⟩ := O.pst b (CG.sub b h.1) _ hp
      rw [← O.inj hy hx e1, e2]; exact h.2
theorem IsLeaf.congr (h : ∀ a, a.which = w → (a ∈ S ↔ a ∈ T)) (L : IsLeaf S w F) : IsLeaf T w F := by
  have st : ∀ (on off : Kind → Bool) p, Stands S w on off p ↔ Stands T w on off p := fun on off p => by
    constructor
    · rintro ⟨a, h1, h2, h3, h4, h5⟩; exact ⟨a, (h a h2).mp h1, h2, h3, h4, fun b hb hbw => h5 b ((h b hbw).mpr hb) hbw⟩
    · rintro ⟨a, h1, h2, h3, h4, h5⟩; exact ⟨a, (h a h2).mpr h1, h2, h3, h4, fun b hb hbw => h5 b ((h b hbw).mp hb) hbw⟩
  refine ⟨L.id, fun a ha hw => L.first a ((h a hw).mpr ha) hw, fun p => ?_, fun p => by rw [← st]; exact L.names p, fun p => by rw [← st]; exact L.texts p⟩
  rw [L.known]
  constructor
  · rintro ⟨a, h1, h2, h3⟩; exact ⟨a, (h a h2).mp h1, h2, h3⟩
  · rintro ⟨a, h1, h2, h3⟩; exact ⟨a, (h a h2).mpr h1, h2, h3⟩
/-- whether one lacks an act on w that the other one heard of -/
def lacks (S G : List Act) (w : Mk) : Bool := G.any fun a => decide (a.which = w) && !decide (idxI a ∈ S.map idxI)
theorem lacks_iff (O : OkA A) (CS : Closed A S) (CG : Closed A G) : lacks S G w = true ↔ ∃ a ∈ G, a.which = w ∧ a ∉ S := by
  unfold lacks
  rw [List.any_eq_true]
  simp only [Bool.and_eq_true, decide_eq_true_eq, Bool.not_eq_true', decide_eq_false_iff_not]
  constructor
  · rintro ⟨a, ha, h1, h2⟩
    exact ⟨a, ha, h1, fun z => h2 (List.mem_map_of_mem z)⟩
  · rintro ⟨a, ha, h1, h2⟩
    refine ⟨a, ha, h1, fun z => h2 ?_⟩
    obtain ⟨x, hx, e⟩ := List.mem_map.mp z
    rw [← O.inj (CS.sub x hx) (CG.sub a ha) (by unfold idxI at e; omega)]
    exact hx
/-- both files joined: the leaf of what is told -/
theorem join_told {n m : Nat} (O : OkA A) (CS : Closed A S) (CG : Closed A G) (h0 : IsLeaf S w F0) (hF : IsLeaf G w F) (g0 : Gd n F0) (gF : Gd m F) (hex : ∃ a ∈ S, a.which = w) (hU : ∀ x, x ∈ U ↔ x ∈ S ∨ (x ∈ G ∧ x.which = w)) :
    IsLeaf U w (joinF F0 F) ∧ (joinF F0 F = F0 ↔ lacks S G w = false) := by
  have L : IsLeaf U w (joinF F0 F) := (IsLeaf.join O CS CG h0 hF g0 gF (U := S ++ G) (fun a => List.mem_append) hex).congr fun a ha => by
    rw [List.mem_append, hU]
    constructor
    · rintro (h | h)
      · exact .inl h
      · exact .inr ⟨h, ha⟩
    · rintro (h | h)
      · exact .inl h
      · exact .inr h.1
  refine ⟨L, ?_⟩
  constructor
  · intro e
    cases hl : lacks S G w with
    | false => rfl
    | true =>
      obtain ⟨a, ha, hw, hn⟩ := (lacks_iff O CS CG).mp hl
      have k1 : within a.mark (joinF F0 F).known = true := (L.known a.mark).mpr ⟨a, (hU a).mpr (.inr ⟨ha, hw⟩), hw, rfl, Int.le_refl _⟩
      rw [e] at k1
      exact absurd ((h0.heard O CS (CG.sub a ha) hw).mp k1) hn
  · intro hl
    refine IsLeaf.uniq L h0 (g0.join gF) g0 (fun a ha => ?_) ?_
    · rw [hU]
      constructor
      · rintro (h | ⟨h, _⟩)
        · exact h
        · apply Classical.byContradiction
          intro hn
          have := (lacks_iff O CS CG).mpr ⟨a, h, ha, hn⟩
          rw [hl] at this; cases this
      · exact .inl
    · obtain ⟨c, hc, hcw⟩ := hex
      exact ⟨c, (hU c).mpr (.inl hc), hcw⟩
end
section
variable {D : Loci} {W : Wo} {h : HM} {i j : Nat}
def Wo.lent (W : Wo) (j : Nat) (S : List Act) (E : List (Mk × Fl)) : Wo := ⟨W.m, W.num, W.ct, W.A, W.V, up W.S j S, up W.E j E, W.out⟩
theorem WOk.lent (O : WOk W) (hj : j < W.m) {S' : List Act} {E' : List (Mk × Fl)} (C : Closed W.A S') (hS : Shelf S' E') (hsub : ∀ a ∈ W.S j, a ∈ S') (ho : ∀ v, W.out v → (∀ a ∈ W.A, a.which = v → a ∈ S') ∨ (∀ a ∈ S', a.which ≠ v)) : WOk (W.lent j S' E') := by
  refine ⟨O.ok, O.ix, O.ln, fun k hk => ?_, fun k hk => ?_, O.nums, O.inj, fun a ha => ?_, O.oute, fun v hv k hk => ?_, O.outg, O.ct0, O.m6⟩
  · show Closed W.A (up W.S j S' k)
    by_cases e : k = j
    · subst e; rw [up_same]; exact C
    · rw [up_ne e]; exact O.cl k hk
  · show Shelf (up W.S j S' k) (up W.E j E' k)
    by_cases e : k = j
    · subst e; rw [up_same, up_same]; exact hS
    · rw [up_ne e, up_ne e]; exact O.sh k hk
  · obtain ⟨k, hk, h1, h2, h3⟩ := O.own a ha
    refine ⟨k, hk, h1, h2, h3.imp id fun h3 => ?_⟩
    show a ∈ up W.S j S' k
    by_cases e : k = j
    · subst e; rw [up_same]; exact hsub a h3
    · rw [up_ne e]; exact h3
  · show (∀ a ∈ W.A, a.which = v → a ∈ up W.S j S' k) ∨ (∀ a ∈ up W.S j S' k, a.which ≠ v)
    by_cases e : k = j
    · subst e; rw [up_same]; exact ho v hv
    · rw [up_ne e]; exact O.outs v hv k hk
/-- what a house comes to know of a file that is forgotten for good: all or nothing -/
theorem tellS_out {G : List Act} {w : Mk} (O : WOk W) (hj : j < W.m) (CG : Closed W.A G) (hG : ∀ v, W.out v → (∀ a ∈ W.A, a.which = v → a ∈ G) ∨ (∀ a ∈ G, a.which ≠ v)) (v : Mk) (hv : W.out v) :
    (∀ a ∈ W.A, a.which = v → a ∈ tellS (W.S j) G w) ∨ (∀ a ∈ tellS (W.S j) G w, a.which ≠ v) := by
  have mem := tellS_mem (w := w) O.ok (O.cl j hj) CG
  rcases O.outs v hv j hj with k | k
  · exact .inl fun a ha e => (mem a).mpr (.inl (k a ha e))
  · by_cases e : v = w
    · subst e
      rcases hG v hv with g | g
      · exact .inl fun a ha e => (mem a).mpr (.inr ⟨g a ha e, e⟩)
      · refine .inr fun a ha e => ?_
        rcases (mem a).mp ha with h | h
        · exact k a h e
        · exact g a h.1 e
    · refine .inr fun a ha e2 => ?_
      rcases (mem a).mp ha with h | h
      · exact k a h e2
      · exact e (e2.symm.trans h.2)
theorem WAt.lent {h1 : HM} {S' : List Act} {E' : List (Mk × Fl)} (H : WAt D W h) (hj : j < W.m) (H1 : HE h1 (D.ha j) (W.num j) (W.ct j) E')
    (fr : ∀ k, k ≠ D.ha j → k ≠ D.ha j + 1 → k ≠ D.ba j → h1[k]? = h[k]?) (bk : h1[D.ba j]? = some (.dK (kvB S'))) : WAt D (W.lent j S' E') h1 := by
  obtain ⟨l1, l2, l3, l4, l5, l6, sha, sba, shb, shh, sbb⟩ := H.sp
  obtain ⟨z1, z2, z3, z4⟩ := sha j hj _ (.inl rfl)
  obtain ⟨y1, y2, y3, y4⟩ := sha j hj _ (.inr rfl)
  obtain ⟨x1, x2, x3, x4⟩ := sba j hj
  refine ⟨?_, ?_, ?_, ?_, fun k hk => ?_, fun k hk => ?_, H.sp⟩
  · exact (fr (D.hs) (by first | assumption | (apply Ne.symm; assumption) | omega) (by first | assumption | (apply Ne.symm; assumption) | omega) (by first | assumption | (apply Ne.symm; assumption) | omega)).trans H.hs
  · exact (fr (D.cs) (by first | assumption | (apply Ne.symm; assumption) | omega) (by first | assumption | (apply Ne.symm; assumption) | omega) (by first | assumption | (apply Ne.symm; assumption) | omega)).trans H.cs
  · exact (fr (D.as) (by first | assumption | (apply Ne.symm; assumption) | omega) (by first | assumption | (apply Ne.symm; assumption) | omega) (by first | assumption | (apply Ne.symm; assumption) | omega)).trans H.as
  · exact (fr (D.bs) (by first | assumption | (apply Ne.symm; assumption) | omega) (by first | assumption | (apply Ne.symm; assumption) | omega) (by first | assumption | (apply Ne.symm; assumption) | omega)).trans H.bs
  · have hk : k < W.m := hk
    show HE h1 (D.ha k) (W.num k) (W.ct k) (up W.E j E' k)
    by_cases e : k = j
    · subst e; rw [up_same]; exact H1
    · rw [up_ne e]
      obtain ⟨D', e1, q⟩ := H.hh k hk
      have s0 := shh j hj k hk (fun z => e z.symm)
      obtain ⟨u1, u2⟩ := shb k hk j hj
      exact ⟨D', e1, ⟨(fr _ (by first | assumption | (apply Ne.symm; assumption) | omega) (by first | assumption | (apply Ne.symm; assumption) | omega) (by first | assumption | (apply Ne.symm; assumption) | omega)).trans q.ins, (fr _ (by first | assumption | (apply Ne.symm; assumption) | omega) (by first | assumption | (apply Ne.symm; assumption) | omega) (by first | assumption | (apply Ne.symm; assumption) | omega)).trans q.sh⟩⟩
  · have hk : k < W.m := hk
    show h1[D.ba k]? = some (.dK (kvB (up W.S j S' k)))
    by_cases e : k = j
    · subst e; rw [up_same]; exact bk
    · rw [up_ne e]
      have s0 := sbb j hj k hk (fun z => e z.symm)
      obtain ⟨u1, u2⟩ := shb j hj k hk
      exact (fr _ (by first | assumption | (apply Ne.symm; assumption) | omega) (by first | assumption | (apply Ne.symm; assumption) | omega) (by first | assumption | (apply Ne.symm; assumption) | omega)).trans (H.bk k hk)
/-- a house takes a file as another one has it -/
theorem take_lent (O : WOk W) (hl : W.A.length ≤ 100) (hi : i < W.m) (hj : j < W.m) {w : Mk} {F : Fl} {c : Bool} (hF : getM (W.E i) w = some F) (Hj : HE h (D.ha j) (W.num j) (W.ct j) (W.E j)) :
    ∃ h' E', m_House_take [.ref (D.ha j), eB (F, c)] h = .ok (.bl (lacks (W.S j) (W.S i) w)) h' ∧ HE h' (D.ha j) (W.num j) (W.ct j) E' ∧ Fr (D.ha j) h h' ∧ WOk (W.lent j (tellS (W.S j) (W.S i) w) E') := by
  have CI := O.cl i hi
  have CJ := O.cl j hj
  have SJ := O.sh j hj
  obtain ⟨hexI, LF, n, gF⟩ := (O.sh i hi).ok w F hF
  have gF := LF.cut CI gF
  have lE := SJ.len CJ
  have idF := LF.id
  have C' := tellS_closed (w := w) O.ok CJ CI
  have mem' := tellS_mem (w := w) O.ok CJ CI
  have hU1 : ∀ a, a ∈ tellS (W.S j) (W.S i) w → a ∈ W.S j ∨ a.which = w := fun a ha => ((mem' a).mp ha).imp id fun z => z.2
  have hU2 : ∀ a, a ∈ W.S j → a ∈ tellS (W.S j) (W.S i) w := fun a ha => (mem' a).mpr (.inl ha)
  have oth : ∀ w', w' ≠ w → ∀ G, IsLeaf (W.S j) w' G → IsLeaf (tellS (W.S j) (W.S i) w) w' G := fun w' e G hG => hG.congr fun a ha => by
    rw [mem']
    constructor
    · exact .inl
    · rintro (h | ⟨_, h⟩)
      · exact h
      · exact absurd (ha.symm.trans h) e
  have hexU : ∃ a ∈ tellS (W.S j) (W.S i) w, a.which = w := by
    obtain ⟨c, hc, hcw⟩ := hexI
    exact ⟨c, (mem' c).mpr (.inr ⟨hc, hcw⟩), hcw⟩
  have ho := tellS_out (w := w) O hj CI (fun v hv => O.outs v hv i hi)
  subst idF
  cases hg : getM (W.E j) F.id with
  | none =>
    obtain ⟨h', e, H', fr⟩ := take_new (b := c) Hj hg gF (by omega)
    have no : ∀ a ∈ W.S j, a.which ≠ F.id := fun a ha e => by
      obtain ⟨G, hG⟩ := SJ.all a ha
      rw [e, hg] at hG; cases hG
    have hlk : lacks (W.S j) (W.S i) F.id = true := by
      obtain ⟨c, hc, hcw⟩ := hexI
      exact (lacks_iff O.ok CJ CI).mpr ⟨c, hc, hcw, fun z => no c z hcw⟩
    have L' : IsLeaf (tellS (W.S j) (W.S i) F.id) F.id F := LF.congr fun a ha => by
      rw [mem']
      constructor
      · exact fun z => .inr ⟨z, ha⟩
      · rintro (h | h)
        · exact absurd ha (no a h)
        · exact h.1
    rw [hlk]
    exact ⟨h', _, e, H', fr, O.lent hj C' (SJ.mk2 oth hU1 hU2 hexU L' gF) hU2 ho⟩
  | some F0 =>
    obtain ⟨hex0, L0, n0, g0⟩ := SJ.ok _ _ hg
    have g0 := L0.cut CJ g0
    have fst : F.first = F0.first := by
      obtain ⟨c, hc, hcw⟩ := hexI
      obtain ⟨d, hd, hdw⟩ := hex0
      rw [LF.first c hc hcw, L0.first d hd hdw]
      exact O.ok.first c (CI.sub c hc) d (CJ.sub d hd) (hcw.trans hdw.symm)
    obtain ⟨L', hiff⟩ := join_told O.ok CJ CI L0 LF g0 gF hex0 mem'
    have gj := L'.cut C' (g0.join gF)
    have wf : Wff F.id F0.first (W.A.length + 6) F := fst ▸ gF.wff6
    obtain ⟨h', e, H', fr⟩ := take_old (b := c) Hj hg L0.id (g0.mono (by omega : W.A.length ≤ W.A.length + 6)) wf (by omega) (by omega) (by omega) (gj.mono (by omega)) (by omega)
    have hb : (!decide (joinF F0 F = F0)) = lacks (W.S j) (W.S i) F.id := by
      cases hlk : lacks (W.S j) (W.S i) F.id with
      | false => rw [decide_eq_true (hiff.mpr hlk)]; rfl
      | true => rw [decide_eq_false fun z => by have := hiff.mp z; rw [hlk] at this; cases this]; rfl
    rw [hb] at e
    exact ⟨h', _, e, H', fr, O.lent hj C' (SJ.mk2 oth hU1 hU2 hexU L' gj) hU2 ho⟩
/-- acts told on -/
theorem at_tellB (OA : OkA W.A) (hV : ∀ a ∈ W.A, W.V[a.idx]? = some (eAct a)) (CI : Closed W.A (W.S i)) (CJ : Closed W.A (W.S j)) (H : WAt D W h) (hl : W.A.length ≤ 100) (hi : i < W.m) (hj : j < W.m) (w : Mk) :
    m_law_tell [stV D W.m W.num, .int (j : Nat), .int (i : Nat), eM w] h = .ok .non (h.set (D.ba j) (.dK (kvB (tellS (W.S j) (W.S i) w)))) := by
  obtain ⟨x1, x2, x3, x4⟩ := H.sp.ba j hj
  have lI := CI.len OA
  have lJ := CJ.len OA
  have nblt : D.ba j < h.length := (List.getElem?_eq_some_iff.mp (H.bk j hj)).1
  have x0 : ∀ (b : Act) h, vIx (eAct b) (.int 0) h = .ok (eM b.which) h := fun _ _ => rfl
  have bl : bList [.ref (D.ba i)] h = .ok (.lst ((W.S i).map (Val.int ∘ idxI))) h := by
    simp only [bList, listOf, H.bk i hi, kvB_keys, List.map_map]
  have b1 := ix_range H.bs hi
  obtain ⟨l', h', ef, a9, el, eh⟩ := for_inv (xs := (W.S i).map (Val.int ∘ idxI)) (g := gNm 9) (b := m_law_tell_f0) (l := [some (stV D W.m W.num), some (.int (j : Nat)), some (.int (i : Nat)), some (eM w), some (.ref (D.hs)), some (.lst ((List.range W.m).map fun i => .int (W.num i))), some (.ref (D.cs)), some (.ref (D.as)), some (.ref (D.bs)), none]) (h := h)
    (fun k l h' => ∃ a9, l = [some (stV D W.m W.num), some (.int (j : Nat)), some (.int (i : Nat)), some (eM w), some (.ref (D.hs)), some (.lst ((List.range W.m).map fun i => .int (W.num i))), some (.ref (D.cs)), some (.ref (D.as)), some (.ref (D.bs)), a9] ∧ h' = h.set (D.ba j) (.dK (kvB (tellS (W.S j) ((W.S i).take k) w))))
    ⟨none, rfl, by rw [List.take_zero]; exact (set_same (H.bk j hj)).symm⟩ (by
    rintro k v l h' hx ⟨a9, rfl, rfl⟩
    rw [List.getElem?_map] at hx
    cases em : (W.S i)[k]? with
    | none => rw [em] at hx; cases hx
    | some a =>
      rw [em] at hx
      cases hx
      have ha : a ∈ W.S i := List.mem_of_getElem? em
      have et : (W.S i).take (k + 1) = (W.S i).take k ++ [a] := by rw [List.take_add_one, em]; rfl
      have lT : (tellS (W.S j) ((W.S i).take k) w).length ≤ 1000 := by
        have h1 := foldS_len (L := ((W.S i).take k).filter fun a => decide (a.which = w)) (S := W.S j)
        have h2 := List.length_filter_le (fun a : Act => decide (a.which = w)) ((W.S i).take k)
        have h3 : ((W.S i).take k).length ≤ (W.S i).length := by simp; omega
        unfold tellS
        omega
      have hT : tellS (W.S j) ((W.S i).take (k + 1)) w = if a.which = w then tell1 (tellS (W.S j) ((W.S i).take k) w) a else tellS (W.S j) ((W.S i).take k) w := by
        unfold tellS
        rw [et, List.filter_append, List.foldl_append]
        by_cases e : a.which = w <;> simp [e]
      rw [hT]
      generalize tellS (W.S j) ((W.S i).take k) w = T at lT
      have nb0 : (h.set (D.ba j) (.dK (kvB T)))[D.ba j]? = some (.dK (kvB T)) := List.getElem?_set_self nblt
      have hA : (h.set (D.ba j) (.dK (kvB T)))[D.as]? = some (.lst W.V) := by rw [List.getElem?_set_ne (by first | assumption | (apply Ne.symm; assumption) | omega)]; exact H.as
      have hbs : (h.set (D.ba j) (.dK (kvB T)))[D.bs]? = some (.lst ((List.range W.m).map fun i => .ref (D.ba i))) := by rw [List.getElem?_set_ne (by first | assumption | (apply Ne.symm; assumption) | omega)]; exact H.bs
      have ixa := ix_act hV hA (CI.sub a ha)
      have ixb := ix_range hbs hj
      refine ⟨[some (stV D W.m W.num), some (.int (j : Nat)), some (.int (i : Nat)), some (eM w), some (.ref (D.hs)), some (.lst ((List.range W.m).map fun i => .int (W.num i))), some (.ref (D.cs)), some (.ref (D.as)), some (.ref (D.bs)), some (.int (idxI a))], _, _, rfl, ?_, some (.int (idxI a)), rfl, rfl⟩
      unfold m_law_tell_f0
      by_cases e : a.which = w
      · have s1 : setI (.ref (D.ba j)) (.int (idxI a)) (.bl true) (h.set (D.ba j) (.dK (kvB T))) = some (h.set (D.ba j) (.dK (kvB (tell1 T a)))) := by
          have : (kvB T).length < sizeLine := by rw [sizeLine_eq]; simp [kvB]; omega
          simp only [setI, nb0, if_pos this, keyOf, Option.map_some, put_kvB, List.set_set]
        simp [ixa, x0, eq_mk, e, ixb, s1]
      · simp [ixa, x0, eq_mk, e])
  have lm : ((W.S i).map (Val.int ∘ idxI)).length = (W.S i).length := by simp
  rw [lm, List.take_length] at eh
  have un : ∀ a4 a5 a6 a7 a8 l, gTp 5 (gsCons (gNm 4) (gsCons (gNm 5) (gsCons (gNm 6) (gsCons (gNm 7) (gsCons (gNm 8) (gsNil)))))) (stV D W.m W.num) (some (stV D W.m W.num) :: some (.int (j : Nat)) :: some (.int (i : Nat)) :: some (eM w) :: a4 :: a5 :: a6 :: a7 :: a8 :: l) = some (some (stV D W.m W.num) :: some (.int (j : Nat)) :: some (.int (i : Nat)) :: some (eM w) :: some (.ref (D.hs)) :: some (.lst ((List.range W.m).map fun i => .int (W.num i))) :: some (.ref (D.cs)) :: some (.ref (D.as)) :: some (.ref (D.bs)) :: l) := fun _ _ _ _ _ _ => rfl
  unfold m_law_tell mF
  simp [un, b1, bl, srcOf]
  rw [ef, eh]
theorem at_tell (O : WOk W) (H : WAt D W h) (hl : W.A.length ≤ 100) (hi : i < W.m) (hj : j < W.m) (w : Mk) :
    m_law_tell [stV D W.m W.num, .int (j : Nat), .int (i : Nat), eM w] h = .ok .non (h.set (D.ba j) (.dK (kvB (tellS (W.S j) (W.S i) w)))) := at_tellB O.ok O.ix (O.cl i hi) (O.cl j hj) H hl hi hj w
end
end
end MM
namespace MM
open PySem L2 PySem.W
noncomputable section
/-- an act that is no making saw a text that stood -/
def LiveAct (A : List Act) (x : Act) : Prop := x.mark = x.which ∨ ∃ a ∈ A, a.idx ∈ x.past ∧ a.kind.tx = true ∧ ∀ b ∈ A, b.idx ∈ x.past → a.idx ∈ b.past → b.kind.offT = false
/-- what a house knew of w as it told it -/
structure Told (W : Wo) (j : Nat) (w : Mk) (ks : List Mk) : Prop where
  ex : ∃ G : List Act, Closed W.A G ∧ (∀ a ∈ G, a.which = w → a ∈ W.S j) ∧ (∃ a ∈ G, a.which = w) ∧ (∀ p, within p ks = true ↔ ∃ a ∈ G, a.which = w ∧ a.mark.1 = p.1 ∧ p.2 ≤ a.mark.2) ∧
    ∀ x ∈ W.A, x.mark.1 = W.num j → x.which = w → x ∉ G → ∀ a ∈ G, a.which = w → a.idx ∈ x.past
section
variable {W : Wo} {i j : Nat} {w : Mk} {F : Fl} {ks : List Mk} {A G S : List Act}
/-- as IsLeaf.heard, of what is known alone -/
theorem known_heard (O : OkA A) (C : Closed A G) (hk : ∀ p, within p ks = true ↔ ∃ a ∈ G, a.which = w ∧ a.mark.1 = p.1 ∧ p.2 ≤ a.mark.2) {a : Act} (ha : a ∈ A) (hw : a.which = w) : within a.mark ks = true ↔ a ∈ G := by
  rw [hk]
  constructor
  · rintro ⟨c, hc, hcw, h1, h2⟩
    by_cases e : a.mark = c.mark
    · rw [O.mki a ha c (C.sub c hc) e]; exact hc
    · have lt : a.mark.2 < c.mark.2 := by
        have : a.mark.2 ≠ c.mark.2 := fun z => e (Prod.ext h1.symm z)
        omega
      have := O.same a ha c (C.sub c hc) (hw.trans hcw.symm) h1.symm lt
      exact C.cl c hc a ha this
  · intro h
    exact ⟨a, h, hw, rfl, Int.le_refl _⟩
theorem told_now (O : WOk W) (hj : j < W.m) (ho : ¬ W.out w) (hF : getM (W.E j) w = some F) : Told W j w F.known := by
  obtain ⟨hex, L, _⟩ := (O.sh j hj).ok w F hF
  refine ⟨W.S j, O.cl j hj, fun a ha _ => ha, hex, L.known, fun x hx hm hw hn => absurd ?_ hn⟩
  obtain ⟨q, hq, h1, _, h3⟩ := O.own x hx
  have : q = j := O.inj q hq j hj (h1.symm.trans hm)
  subst this
  exact h3.resolve_left (by rw [hw]; exact ho)
theorem min_of {P : Act → Prop} : ∀ {L : List Act}, (∃ x ∈ L, P x) → ∃ x ∈ L, P x ∧ ∀ y ∈ L, P y → x.idx ≤ y.idx
  | [], ⟨x, hx, _⟩ => by cases hx
  | z :: L, ⟨x, hx, hp⟩ => by
    by_cases hL : ∃ x ∈ L, P x
    · obtain ⟨m, hm, hpm, hmin⟩ := min_of hL
      by_cases hz : P z ∧ z.idx < m.idx
      · refine ⟨z, List.mem_cons_self, hz.1, fun y hy py => ?_⟩
        rcases List.mem_cons.mp hy with rfl | hy
        · exact Nat.le_refl _
        · have := hmin y hy py; omega
      · refine ⟨m, List.mem_cons_of_mem _ hm, hpm, fun y hy py => ?_⟩
        rcases List.mem_cons.mp hy with rfl | hy
        · apply Classical.byContradiction
          intro q
          exact hz ⟨py, by omega⟩
        · exact hmin y hy py
    · rcases List.mem_cons.mp hx with rfl | hx
      · refine ⟨x, List.mem_cons_self, hp, fun y hy py => ?_⟩
        rcases List.mem_cons.mp hy with rfl | hy
        · exact Nat.le_refl _
        · exact absurd ⟨y, hy, py⟩ hL
      · exact absurd ⟨x, hx, hp⟩ hL
/-- a gone file that all others told with the very same known: all acts on it are known here -/
theorem all_here (O : WOk W) (hi : i < W.m) (ho : ¬ W.out w) (la : ∀ x ∈ W.A, LiveAct W.A x) (hF : getM (W.E i) w = some F) (hg : F.texts = []) (ht : ∀ j, j < W.m → j ≠ i → Told W j w F.known) :
    ∀ a ∈ W.A, a.which = w → a ∈ W.S i := by
  apply Classical.byContradiction
  intro hno
  have hno : ∃ x ∈ W.A, x.which = w ∧ x ∉ W.S i := by
    apply Classical.byContradiction
    intro q
    exact hno fun a ha hw => Classical.byContradiction fun z => q ⟨a, ha, hw, z⟩
  obtain ⟨x, hx, ⟨hxw, hxn⟩, hmin⟩ := min_of (P := fun x => x.which = w ∧ x ∉ W.S i) hno
  obtain ⟨hex, L, _⟩ := (O.sh i hi).ok w F hF
  have C := O.cl i hi
  obtain ⟨j, hj, hm, _, h3⟩ := O.own x hx
  have h3 := h3.resolve_left (by rw [hxw]; exact ho)
  by_cases e : j = i
  · subst e; exact hxn h3
  · obtain ⟨G, CG, hGS, ⟨c, hc, hcw⟩, hk, hafter⟩ := (ht j hj e).ex
    have same : ∀ a ∈ W.A, a.which = w → (a ∈ G ↔ a ∈ W.S i) := fun a ha hw => by
      rw [← known_heard O.ok CG hk ha hw, ← known_heard O.ok C L.known ha hw]
    have hxG : x ∉ G := fun z => hxn ((same x hx hxw).mp z)
    have pG := hafter x hx hm hxw hxG
    rcases la x hx with hmk | ⟨a, ha, hap, htx, hoff⟩
    · -- a making: it is ahead of all
      obtain ⟨d, hd, d1, d2, d3⟩ := O.ok.made c (CG.sub c hc)
      have hdx : d = x := O.ok.mki d hd x hx (by rw [d1, hmk, hcw, hxw])
      subst hdx
      rcases d3 with rfl | d3
      · exact hxG hc
      · exact hxG (CG.cl c hc d hd d3)
    · -- it saw a text that stood; but all that it saw is what is known here, and that is gone
      obtain ⟨y, hy, y1, y2, _⟩ := O.ok.pst x hx _ hap
      have hay : a = y := O.ok.ij a ha y hy y1.symm
      have haw : a.which = w := by rw [hay, y2, hxw]
      have inS : ∀ b ∈ W.A, b.which = w → b.idx ∈ x.past → b ∈ W.S i := fun b hb hbw hbp => by
        apply Classical.byContradiction
        intro q
        have h1 := hmin b hb ⟨hbw, q⟩
        have h2 := O.ok.lt x hx _ hbp
        omega
      have : (a.mark, a.what) ∈ F.texts := (L.texts _).mpr ⟨a, inS a ha haw hap, haw, htx, rfl, fun b hb hbw hp => hoff b (C.sub b hb) (pG b ((same b (C.sub b hb) hbw).mpr hb) hbw) hp⟩
      rw [hg] at this
      cases this
/-- acts on a file are acts on it -/
theorem past_which (O : OkA A) {b a : Act} (hb : b ∈ A) (ha : a ∈ A) (h : a.idx ∈ b.past) : a.which = b.which := by
  obtain ⟨c, hc, e1, e2, _⟩ := O.pst b hb _ h
  rw [O.ij a ha c hc e1.symm, e2]
def drS (S : List Act) (ws : List Mk) : List Act := S.filter fun a => !decide (a.which ∈ ws)
theorem mem_drS {ws : List Mk} {a : Act} : a ∈ drS S ws ↔ a ∈ S ∧ a.which ∉ ws := by simp [drS]
theorem Closed.drop {ws : List Mk} (O : OkA A) (C : Closed A S) : Closed A (drS S ws) := by
  refine ⟨fun a ha => C.sub a (mem_drS.mp ha).1, fun b hb a ha hp => ?_, ?_⟩
  · obtain ⟨h1, h2⟩ := mem_drS.mp hb
    exact mem_drS.mpr ⟨C.cl b h1 a ha hp, by rw [past_which O (C.sub b h1) ha hp]; exact h2⟩
  · exact (List.filter_sublist.map _).nodup C.nd
theorem Shelf.drop {ws : List Mk} {E : List (Mk × Fl)} (H : Shelf S E) : Shelf (drS S ws) (E.filter fun p => !decide (p.1 ∈ ws)) := by
  have get : ∀ v, getM (E.filter fun p => !decide (p.1 ∈ ws)) v = if v ∈ ws then none else getM E v := fun v => by
    unfold getM
    clear H
    induction E with
    | nil => simp
    | cons p E ih =>
      by_cases hp : p.1 ∈ ws
      · rw [List.filter_cons_of_neg (by simpa using hp), ih]
        by_cases hv : v ∈ ws
        · simp [hv]
        · have : ¬ p.1 = v := fun z => hv (z ▸ hp)
          simp [hv, List.find?_cons, this]
      · rw [List.filter_cons_of_pos (by simpa using hp)]
        by_cases hpv : p.1 = v
        · subst hpv
          simp [hp]
        · simp only [List.find?_cons, hpv, decide_false]
          exact ih
  refine ⟨(List.filter_sublist.map _).nodup H.nd, fun v F hF => ?_, fun a ha => ?_⟩
  · rw [get] at hF
    split at hF
    · cases hF
    · rename_i hv
      obtain ⟨⟨a, ha, hw⟩, L, g⟩ := H.ok v F hF
      exact ⟨⟨a, mem_drS.mpr ⟨ha, by rw [hw]; exact hv⟩, hw⟩, L.congr fun b hb => by rw [mem_drS, hb]; exact ⟨fun z => ⟨z, hv⟩, fun z => z.1⟩, g⟩
  · obtain ⟨h1, h2⟩ := mem_drS.mp ha
    rw [get, if_neg h2]
    exact H.all a h1
/-- a house forgets some files -/
def Wo.drop (W : Wo) (i : Nat) (ws : List Mk) : Wo := ⟨W.m, W.num, W.ct, W.A, W.V, up W.S i (drS (W.S i) ws), up W.E i ((W.E i).filter fun p => !decide (p.1 ∈ ws)), fun w => W.out w ∨ w ∈ ws⟩
theorem WOk.drop {ws : List Mk} (O : WOk W) (hi : i < W.m) (la : ∀ x ∈ W.A, LiveAct W.A x) (hws : ∀ w ∈ ws, ∃ F, getM (W.E i) w = some F ∧ F.texts = [] ∧ (W.out w ∨ ∀ j, j < W.m → j ≠ i → Told W j w F.known)) : WOk (W.drop i ws) := by
  have C := O.cl i hi
  -- what is forgotten is known here, all of it
  have here : ∀ w ∈ ws, ∀ a ∈ W.A, a.which = w → a ∈ W.S i := fun w hw => by
    obtain ⟨F, hF, hg, h⟩ := hws w hw
    obtain ⟨⟨c, hc, hcw⟩, _⟩ := (O.sh i hi).ok w F hF
    by_cases ho : W.out w
    · rcases O.outs w ho i hi with k | k
      · exact k
      · exact absurd hcw (k c hc)
    · exact all_here O hi ho la hF hg (h.resolve_left ho)
  refine ⟨O.ok, O.ix, O.ln, fun k hk => ?_, fun k hk => ?_, O.nums, O.inj, fun a ha => ?_, fun w hw => ?_, fun w hw k hk => ?_, fun w hw p => ?_, O.ct0, O.m6⟩
  · show Closed W.A (up W.S i (drS (W.S i) ws) k)
    by_cases e : k = i
    · subst e; rw [up_same]; exact C.drop O.ok
    · rw [up_ne e]; exact O.cl k hk
  · show Shelf (up W.S i (drS (W.S i) ws) k) (up W.E i _ k)
    by_cases e : k = i
    · subst e; rw [up_same, up_same]; exact (O.sh k hk).drop
    · rw [up_ne e, up_ne e]; exact O.sh k hk
  · obtain ⟨k, hk, h1, h2, h3⟩ := O.own a ha
    refine ⟨k, hk, h1, h2, ?_⟩
    show (W.out a.which ∨ a.which ∈ ws) ∨ a ∈ up W.S i (drS (W.S i) ws) k
    by_cases hw : a.which ∈ ws
    · exact .inl (.inr hw)
    · rcases h3 with h3 | h3
      · exact .inl (.inl h3)
      · refine .inr ?_
        by_cases e : k = i
        · subst e; rw [up_same]; exact mem_drS.mpr ⟨h3, hw⟩
        · rw [up_ne e]; exact h3
  · rcases hw with hw | hw
    · exact O.oute w hw
    · obtain ⟨F, hF, _⟩ := hws w hw
      obtain ⟨⟨c, hc, hcw⟩, _⟩ := (O.sh i hi).ok w F hF
      exact ⟨c, C.sub c hc, hcw⟩
  · have hk : k < W.m := hk
    show (∀ a ∈ W.A, a.which = w → a ∈ up W.S i (drS (W.S i) ws) k) ∨ (∀ a ∈ up W.S i (drS (W.S i) ws) k, a.which ≠ w)
    by_cases hin : w ∈ ws
    · by_cases e : k = i
      · subst e
        rw [up_same]
        exact .inr fun a ha z => (mem_drS.mp ha).2 (z ▸ hin)
      · rw [up_ne e]
        by_cases ho : W.out w
        · exact O.outs w ho k hk
        · obtain ⟨F, hF, hg, h⟩ := hws w hin
          obtain ⟨_, L, _⟩ := (O.sh i hi).ok w F hF
          obtain ⟨G, CG, hGS, _, hkn, _⟩ := ((h.resolve_left ho) k hk e).ex
          exact .inl fun a ha hw => hGS a ((known_heard O.ok CG hkn ha hw).mp ((known_heard O.ok C L.known ha hw).mpr (here w hin a ha hw))) hw
    · have ho : W.out w := hw.resolve_right hin
      by_cases e : k = i
      · subst e
        rw [up_same]
        rcases O.outs w ho k hk with q | q
        · exact .inl fun a ha z => mem_drS.mpr ⟨q a ha z, by rw [z]; exact hin⟩
        · exact .inr fun a ha => q a (mem_drS.mp ha).1
      · rw [up_ne e]; exact O.outs w ho k hk
  · by_cases ho : W.out w
    · exact O.outg w ho p
    · have hin := hw.resolve_left ho
      obtain ⟨F, hF, hg, _⟩ := hws w hin
      obtain ⟨_, L, _⟩ := (O.sh i hi).ok w F hF
      rintro ⟨a, ha, e1, e2, e3, e4⟩
      have : p ∈ F.texts := (L.texts p).mpr ⟨a, here w hin a ha e1, e1, e2, e3, fun b hb => e4 b (C.sub b hb)⟩
      rw [hg] at this
      cases this
end
end
end MM
namespace MM
open PySem L2 PySem.W
noncomputable section
def m_law_is_right_v2 : FM := mF 5 (sSeq (sAsg (e2 vIx (e2 vIx (eVar 0) (eC (.int 0))) (eVar 1)) (gNm 2))
  (sSeq (sAsg (eCall m_law_files (aCons (eVar 0) (aCons (eVar 1) (aNil)))) (gNm 3))
  (sSeq (sIf (tNotM (tTru (eBi bAll (aCons (eLc (iVal (eVar 3)) (gNm 4) (tYesM) (eCall s_law_same (aCons (eMeth 0 m_House_file (eVar 2) (aCons (e2 vIx (eVar 4) (eC (.int 0))) (aNil))) (aCons (eVar 4) (aNil)))) [4] frozen) (aNil))))) (sRet (eC (.bl false))) (sNil))
  (sSeq (sIf (tNotM (tTru (eCall s_law_same (aCons (eMeth 0 m_House_ids (eVar 2) aNil) (aCons (eBi bTuple (aCons (eLc (iVal (eVar 3)) (gNm 4) (tTru (e2 vIx (eVar 4) (eC (.int 4)))) (e2 vIx (eVar 4) (eC (.int 0))) [4] frozen) (aNil))) (aNil)))))) (sRet (eC (.bl false))) (sNil))
  (sSeq (sIf (tNotM (tTru (eCall s_law_same (aCons (eMeth 0 m_House_gone (eVar 2) aNil) (aCons (eBi bTuple (aCons (eLc (iVal (eVar 3)) (gNm 4) (tNotM (tTru (e2 vIx (eVar 4) (eC (.int 4))))) (e2 vIx (eVar 4) (eC (.int 0))) [4] frozen) (aNil))) (aNil)))))) (sRet (eC (.bl false))) (sNil))
  (sSeq (sIf (tNotM (tTru (eCall s_law_same (aCons (eMeth 0 m_House_heard (eVar 2) aNil) (aCons (eBi bTuple (aCons (eLc (iVal (eVar 3)) (gNm 4) (tYesM) (eDisp mkTup (aCons (e2 vIx (eVar 4) (eC (.int 0))) (aCons (e2 vIx (eVar 4) (eC (.int 2))) (aNil)))) [4] frozen) (aNil))) (aNil)))))) (sRet (eC (.bl false))) (sNil))
  (sRet (eAndM (eCall s_law_same (aCons (eMeth 0 m_House_count (eVar 2) aNil) (aCons (e2 vIx (e2 vIx (eVar 0) (eC (.int 2))) (eVar 1)) (aNil)))) (eCall s_law_same (aCons (eMeth 0 m_House_number (eVar 2) aNil) (aCons (e2 vIx (e2 vIx (eVar 0) (eC (.int 1))) (eVar 1)) (aNil))))))))))))
section
variable {D : Loci} {W : Wo} {h : HM} {i j : Nat}
theorem notin_B {S : List Act} {h : HM} {n : Nat} (hn : h[n]? = some (.dK (kvB S))) {q : Int} : vNotIn (.int q) (.ref n) h = .ok (.bl (!decide (q ∈ S.map idxI))) h := by
  have hg : (getK (kvB S) (.inl q)).isSome = decide (q ∈ S.map idxI) := by
    unfold getK kvB
    rw [Option.isSome_map, Bool.eq_iff_iff, List.find?_isSome, decide_eq_true_eq]
    simp only [List.mem_map]
    constructor
    · rintro ⟨p, ⟨a, ha, rfl⟩, e⟩
      exact ⟨a, ha, Sum.inl.inj (of_decide_eq_true e)⟩
    · rintro ⟨a, ha, rfl⟩
      exact ⟨_, ⟨a, ha, rfl⟩, by simp⟩
  have : inB (.int q) (.ref n) h = some (decide (q ∈ S.map idxI)) := by
    have e : dGet n (.int q) h = some (getK (kvB S) (.inl q)) := by
      unfold dGet
      simp only [hn, keyOf, Option.map_some]
    unfold inB
    simp only [hn, e, ← hg]
    simp
  unfold vNotIn
  rw [this]
theorem lc_files {E : List (Mk × Fl)} {l : Loc} {h : HM} {te : EM} {g : GM} (G : Mk → Val) (hl : E.length ≤ 1000) (ht : ∀ w F, getM E w = some F → ∃ l1, g (eB (F, false)) l = some l1 ∧ te l1 h = .ok (G w) h) :
    lcL (srcItems ((srt (E.map (·.1))).map (fileV2 E))) g tYesM te l (srcItems ((srt (E.map (·.1))).map (fileV2 E))).len 0 h [] = .ok ((srt (E.map (·.1))).map G) h := by
  refine lc_mapM G (fun w hw => ?_) (by rw [sizeLine_eq, srt_len]; simp; omega)
  have hw2 := mem_keysM.mp (srt_mem.mp hw)
  rw [hasM_get, Option.isSome_iff_exists] at hw2
  obtain ⟨F, hF⟩ := hw2
  obtain ⟨l1, a, d⟩ := ht w F hF
  exact ⟨l1, by simp only [fileV2, hF]; exact a, d⟩
theorem lc_deads {E : List (Mk × Fl)} {l : Loc} {h : HM} {te : EM} {g : GM} {tt : TM} (G : Mk → Val) (hl : E.length ≤ 1000) (ht : ∀ w F, getM E w = some F → ∃ l1, g (eB (F, false)) l = some l1 ∧ tt l1 h = .ok (decide (F.texts = [])) h ∧ te l1 h = .ok (G w) h) :
    lcL (srcItems ((srt (E.map (·.1))).map (fileV2 E))) g tt te l (srcItems ((srt (E.map (·.1))).map (fileV2 E))).len 0 h [] = .ok (((srt (E.map (·.1))).filter fun w => deadE E w).map G) h := by
  refine lc_filterM (fun w => deadE E w) G (fun w hw => ?_) (by rw [sizeLine_eq, srt_len]; simp; omega)
  have hw2 := mem_keysM.mp (srt_mem.mp hw)
  rw [hasM_get, Option.isSome_iff_exists] at hw2
  obtain ⟨F, hF⟩ := hw2
  obtain ⟨l1, a, c, d⟩ := ht w F hF
  exact ⟨l1, by simp only [fileV2, hF]; exact a, by simp only [deadE, hF]; exact c, fun _ => d⟩
/-- what the law lists as heard -/
def heardF (E : List (Mk × Fl)) (w : Mk) : Val := match getM E w with
  | some F => .tup [eM w, kB false F.known]
  | none => .non
theorem same_heard {E : List (Mk × Fl)} {b : Mk → Bool} {h : HM} (hg : ∀ w F, getM E w = some F → ∃ n, Gd n F) (hl : E.length ≤ 1000) : s_law_same [.tup ((srt (E.map (·.1))).map (heardB E b)), .tup ((srt (E.map (·.1))).map (heardF E))] h = .ok (.bl true) h := by
  have get : ∀ w ∈ srt (E.map (·.1)), ∃ F, getM E w = some F := fun w hw => by
    have hw2 := mem_keysM.mp (srt_mem.mp hw)
    rw [hasM_get, Option.isSome_iff_exists] at hw2
    exact hw2
  have p1 : ∀ w : Mk, pl 28 (eM w) = true := fun w => by simp [pl, eM]
  refine same_maps (by rw [srt_len]; simp; omega) (fun w hw => ?_) (fun w hw => ?_) fun w hw => ?_
  · obtain ⟨F, e1⟩ := get w hw
    obtain ⟨n, g⟩ := hg w F e1
    have := g.known.len
    have p2 : pl 28 (kB (b w) F.known) = true := pl_known (d := 26) (by omega)
    simp only [heardB, e1]
    exact pl_tupL (xs := [eM w, kB (b w) F.known]) rfl (by simp) (by simp [p1, p2])
  · obtain ⟨F, e1⟩ := get w hw
    obtain ⟨n, g⟩ := hg w F e1
    have := g.known.len
    have p2 : pl 28 (kB false F.known) = true := pl_known (d := 26) (by omega)
    simp only [heardF, e1]
    exact pl_tupL (xs := [eM w, kB false F.known]) rfl (by simp) (by simp [p1, p2])
  · obtain ⟨F, e1⟩ := get w hw
    have p1 : sameB (eM w) (eM w) = true := by simp [eM, sameB, sameBs, tupL]
    simp only [heardB, heardF, e1]
    rw [sameB_tup (xs := [eM w, kB (b w) F.known]) (ys := [eM w, kB false F.known]) rfl rfl]
    simp only [sameBs, p1, sameB_known, Bool.and_self]
theorem at_rightW (O : WOk W) (H : WAt D W h) (hl : W.V.length < 60) (hi : i < W.m) : ∃ h', m_law_is_right_v2 [stV D W.m W.num, .int (i : Nat)] h = .ok (.bl true) (h ++ h') := by
  have lnA := O.ln
  obtain ⟨g1, ef⟩ := at_filesW O H (by omega) hi
  have Hg : WAt D W (h ++ g1) := H.app
  have lE := (O.sh i hi).len (O.cl i hi)
  have He := Hg.hh i hi
  have hgd : ∀ w F, getM (W.E i) w = some F → ∃ n, Gd n F := fun w F e => ((O.sh i hi).ok w F e).2.2
  have hgA : ∀ w F, getM (W.E i) w = some F → Gd W.A.length F := fun w F e => (O.sh i hi).gd (O.cl i hi) e
  have hid : ∀ w F, getM (W.E i) w = some F → F.id = w := fun w F e => ((O.sh i hi).ok w F e).2.1.id
  have ids := he_ids He (by omega)
  have gon := he_gone He (by omega)
  obtain ⟨bb, hea⟩ := he_heard He (by omega)
  have cnt := he_count He
  have num := he_number He
  have hs1 := ix_range H.hs hi
  have cs1 := ix_range Hg.cs hi
  have nm1 : ∀ h, vIx (.lst ((List.range W.m).map fun i => .int (W.num i))) (.int (i : Nat)) h = .ok (.int (W.num i)) h := fun h => ix_rangeL hi
  have st0 : ∀ h, vIx (stV D W.m W.num) (.int 0) h = .ok (.ref (D.hs)) h := fun h => rfl
  have st1 : ∀ h, vIx (stV D W.m W.num) (.int 1) h = .ok (.lst ((List.range W.m).map fun i => .int (W.num i))) h := fun h => rfl
  have st2 : ∀ h, vIx (stV D W.m W.num) (.int 2) h = .ok (.ref (D.cs)) h := fun h => rfl
  have isI := He.isI
  have x0 : ∀ w F, getM (W.E i) w = some F → ∀ h, vIx (eB (F, false)) (.int 0) h = .ok (eM w) h := fun w F e h => by rw [← hid w F e]; rfl
  have x2 : ∀ (F : Fl) h, vIx (eB (F, false)) (.int 2) h = .ok (kB false F.known) h := fun F h => rfl
  have x4 : ∀ (F : Fl) h, vIx (eB (F, false)) (.int 4) h = .ok (.tup (F.texts.map eW)) h := fun F h => rfl
  have w0 : lcL (srcItems ((srt ((W.E i).map (·.1))).map (fileV2 (W.E i)))) (gNm 4) tYesM (eCall s_law_same (aCons (eMeth 0 m_House_file (eVar 2) (aCons (e2 vIx (eVar 4) (eC (.int 0))) (aNil))) (aCons (eVar 4) (aNil)))) [some (stV D W.m W.num), some (.int (i : Nat)), some (.ref (D.ha i)), some (.lst ((srt ((W.E i).map (·.1))).map (fileV2 (W.E i)))), none] (srcItems ((srt ((W.E i).map (·.1))).map (fileV2 (W.E i)))).len 0 (h ++ g1) [] = .ok ((srt ((W.E i).map (·.1))).map fun _ => .bl true) (h ++ g1) :=
    lc_files (fun _ => .bl true) (by omega) fun w F e => ⟨[some (stV D W.m W.num), some (.int (i : Nat)), some (.ref (D.ha i)), some (.lst ((srt ((W.E i).map (·.1))).map (fileV2 (W.E i)))), some (eB (F, false))], rfl, by
      obtain ⟨c, ffile⟩ := he_file He e
      have sm : ∀ h, s_law_same [eB (F, c), eB (F, false)] h = .ok (.bl true) h := fun h => same_files (hgA w F e) (by omega)
      simp [isI, x0 w F e, ffile, sm]⟩
  have w1 : lcL (srcItems ((srt ((W.E i).map (·.1))).map (fileV2 (W.E i)))) (gNm 4) (tTru (e2 vIx (eVar 4) (eC (.int 4)))) (e2 vIx (eVar 4) (eC (.int 0))) [some (stV D W.m W.num), some (.int (i : Nat)), some (.ref (D.ha i)), some (.lst ((srt ((W.E i).map (·.1))).map (fileV2 (W.E i)))), none] (srcItems ((srt ((W.E i).map (·.1))).map (fileV2 (W.E i)))).len 0 (h ++ g1) [] = .ok (((srt ((W.E i).map (·.1))).filter fun w => !deadE (W.E i) w).map eM) (h ++ g1) :=
    lc_lives eM (by omega) fun w F e => ⟨[some (stV D W.m W.num), some (.int (i : Nat)), some (.ref (D.ha i)), some (.lst ((srt ((W.E i).map (·.1))).map (fileV2 (W.E i)))), some (eB (F, false))], rfl, by
      simp only [ev_tTru, ev_e2, ev_VarS, ev_Var0, ev_C, Res.bind_ok, x4, tru_texts], by simp [x0 w F e]⟩
  have w2 : lcL (srcItems ((srt ((W.E i).map (·.1))).map (fileV2 (W.E i)))) (gNm 4) (tNotM (tTru (e2 vIx (eVar 4) (eC (.int 4))))) (e2 vIx (eVar 4) (eC (.int 0))) [some (stV D W.m W.num), some (.int (i : Nat)), some (.ref (D.ha i)), some (.lst ((srt ((W.E i).map (·.1))).map (fileV2 (W.E i)))), none] (srcItems ((srt ((W.E i).map (·.1))).map (fileV2 (W.E i)))).len 0 (h ++ g1) [] = .ok (((srt ((W.E i).map (·.1))).filter fun w => deadE (W.E i) w).map eM) (h ++ g1) :=
    lc_deads eM (by omega) fun w F e => ⟨[some (stV D W.m W.num), some (.int (i : Nat)), some (.ref (D.ha i)), some (.lst ((srt ((W.E i).map (·.1))).map (fileV2 (W.E i)))), some (eB (F, false))], rfl, by
      simp only [ev_tNot, ev_tTru, ev_e2, ev_VarS, ev_Var0, ev_C, Res.bind_ok, x4, tru_texts, Bool.not_not], by simp [x0 w F e]⟩
  have w3 : lcL (srcItems ((srt ((W.E i).map (·.1))).map (fileV2 (W.E i)))) (gNm 4) tYesM (eDisp mkTup (aCons (e2 vIx (eVar 4) (eC (.int 0))) (aCons (e2 vIx (eVar 4) (eC (.int 2))) (aNil)))) [some (stV D W.m W.num), some (.int (i : Nat)), some (.ref (D.ha i)), some (.lst ((srt ((W.E i).map (·.1))).map (fileV2 (W.E i)))), none] (srcItems ((srt ((W.E i).map (·.1))).map (fileV2 (W.E i)))).len 0 (h ++ g1) [] = .ok ((srt ((W.E i).map (·.1))).map (heardF (W.E i))) (h ++ g1) :=
    lc_files (heardF (W.E i)) (by omega) fun w F e => ⟨[some (stV D W.m W.num), some (.int (i : Nat)), some (.ref (D.ha i)), some (.lst ((srt ((W.E i).map (·.1))).map (fileV2 (W.E i)))), some (eB (F, false))], rfl, by
      simp [x0 w F e, x2, heardF, e]⟩
  have s3 := same_heard (E := W.E i) (b := bb) (h := h ++ g1) hgd (by omega)
  have lid : (srt ((W.E i).map (·.1))).length ≤ 1000 := by rw [srt_len]; simp; omega
  have s1 := same_marks _ (Nat.le_trans (List.length_filter_le (fun w => !deadE (W.E i) w) (srt ((W.E i).map (·.1)))) (by omega)) (h ++ g1)
  have s2 := same_marks _ (Nat.le_trans (List.length_filter_le (fun w => deadE (W.E i) w) (srt ((W.E i).map (·.1)))) (by omega)) (h ++ g1)
  have al : ∀ h, bAll [.lst ((srt ((W.E i).map (·.1))).map fun _ => Val.bl true)] h = .ok (.bl true) h := fun h => by
    have := all_ok (xs := srt ((W.E i).map (·.1))) (f := fun _ => true) (h := h)
    rw [this, List.all_eq_true.mpr fun _ _ => rfl]
  generalize hK : srt ((W.E i).map (·.1)) = K at *
  generalize (K.map fun _ => Val.bl true) = Q0 at *
  generalize (K.filter fun w => !deadE (W.E i) w) = V at *
  generalize (K.filter fun w => deadE (W.E i) w) = D at *
  generalize K.map (heardF (W.E i)) = Q at *
  generalize K.map (heardB (W.E i) bb) = R at *
  generalize K.map (fileV2 (W.E i)) = FV at *
  refine ⟨g1, ?_⟩
  generalize h ++ g1 = h1 at *
  unfold m_law_is_right_v2 mF
  simp [st0, st1, st2, hs1, ef, srcOf, wipeL, w0, w1, w2, w3, al, isI, ids, gon, hea, cnt, num, bTuple, seqL, s1, s2, s3, cs1, nm1, same_int]
end
end
end MM
namespace MM
open PySem L2 PySem.W
noncomputable section
def num0 (ns : List Int) (i : Nat) : Int := (lperm (cell ns 0) 6).getD i 0
def Wo0 (m : Nat) (num : Nat → Int) : Wo := ⟨m, num, fun _ => 0, [], [], fun _ => [], fun _ => [], fun _ => False⟩
theorem lperm6 {c : Int} : (lperm c 6).length = 6 := by
  have := lperm_perm.length_eq (l₁ := lperm c 6)
  simpa using this
theorem num0_at {ns : List Int} {i : Nat} (hi : i < 6) : (lperm (cell ns 0) 6)[i]? = some (num0 ns i) := by
  unfold num0
  rw [List.getD_eq_getElem?_getD]
  have : i < (lperm (cell ns 0) 6).length := by rw [lperm6]; exact hi
  simp [this]
theorem Wo0_ok {ns : List Int} {m : Nat} (hm : m ≤ 6) : WOk (Wo0 m (num0 ns)) := by
  have mem : ∀ i, i < m → num0 ns i ∈ lperm (cell ns 0) 6 := fun i hi => List.mem_of_getElem? (num0_at (by omega))
  have nd : (lperm (cell ns 0) 6).Nodup := by
    rw [lperm_perm.nodup_iff]
    rw [List.Nodup, List.pairwise_map]
    exact List.nodup_range.imp fun h e => h (by omega)
  refine ⟨⟨fun a ha => (by cases ha), fun a ha => (by cases ha), fun a ha => (by cases ha), fun a ha => (by cases ha), fun a ha => (by cases ha), fun a ha => (by cases ha), fun a ha => (by cases ha), fun a ha => (by cases ha), fun a ha => (by cases ha), fun a ha => (by cases ha), fun a ha => (by cases ha), fun a ha => (by cases ha), fun a ha => (by cases ha)⟩, fun a ha => (by cases ha), Nat.le_refl _,
    fun i hi => ⟨fun a ha => (by cases ha), fun a ha => (by cases ha), List.Pairwise.nil⟩, fun i hi => ⟨List.Pairwise.nil, fun w F e => (by cases e), fun a ha => (by cases ha)⟩, fun i hi => ?_, fun i hi j hj e => ?_, fun a ha => (by cases ha), fun w hw => hw.elim, fun w hw => hw.elim, fun w hw => hw.elim, fun i hi => ?_, hm⟩
  · have hi : i < m := hi
    have := lperm_perm.mem_iff.mp (mem i hi)
    obtain ⟨k, hk, e⟩ := List.mem_map.mp this
    have := List.mem_range.mp hk
    show 0 ≤ num0 ns i ∧ num0 ns i ≤ 5
    rw [← e]
    have : (6 : Int).toNat = 6 := rfl
    omega
  · have hi : i < m := hi
    have hj : j < m := hj
    have e : num0 ns i = num0 ns j := e
    have h1 := num0_at (ns := ns) (i := i) (by omega)
    have h2 := num0_at (ns := ns) (i := j) (by omega)
    have li : i < (lperm (cell ns 0) 6).length := by rw [lperm6]; omega
    exact (List.getElem?_inj li nd).mp (by rw [h1, h2, e])
  · show (0 : Int) ≤ 0 ∧ (0 : Int) ≤ (([] : List Val).length : Nat)
    simp
theorem take_num {ns : List Int} {m : Nat} (hm : m ≤ 6) : (lperm (cell ns 0) 6).take m = (List.range m).map (num0 ns) := by
  apply List.ext_getElem?
  intro i
  rw [List.getElem?_take, List.getElem?_map]
  by_cases h : i < m
  · rw [if_pos h, num0_at (by omega), List.getElem?_range h]; rfl
  · rw [if_neg h, List.getElem?_eq_none (by simp; omega)]; rfl
/-- where all stands at the beginning -/
def D0 (b m : Nat) : Loci := ⟨b + 3 * m, b + 3 * m + 1, b + 3 * m + 2, b + 4 * m + 3, fun i => b + 3 * i, fun i => b + 3 * m + 3 + i⟩
theorem D0_sep {b m : Nat} : Sep (D0 b m) m := by
  refine ⟨?_, ?_, ?_, ?_, ?_, ?_, fun i hi q hq => ?_, fun i hi => ?_, fun i hi j hj => ?_, fun i hi j hj e => ?_, fun i hi j hj e => ?_⟩ <;> simp only [D0] at * <;> omega
end
end MM
namespace MM
open PySem L2 PySem.W
noncomputable section
def knownE (E : List (Mk × Fl)) (w : Mk) : List Mk := match getM E w with
  | some F => F.known
  | none => []
end
end MM
namespace MM
open PySem L2 PySem.Spec PyProof.Rows
/-- hs: of each exception whether the clause takes it (none: not told) -/
def sTry (hs : List (Option Bool)) (mb ms : SM) : SM := fun l h => match mb l h with
  | .exc c l' h' => (match hs[c]? with
    | some (some true) => ms l' h'
    | some (some false) => .exc c l' h'
    | _ => .bad)
  | r => r
/-- what the clause says to each exception -/
def ExH (G : Glob) (K : PySem.W.Frag) (cv : Value) : Nat → List (Option Bool) → Prop
  | _, [] => True
  | i, none :: bs => ExH G K cv (i + 1) bs
  | i, some b :: bs => (∃ C, G.exc i = some C ∧ PySem.W.exmOne K (.ref C) cv = some b) ∧ ExH G K cv (i + 1) bs
theorem ExH.at_ {G : Glob} {K : PySem.W.Frag} {cv : Value} : ∀ {hs : List (Option Bool)} {i k : Nat} {b : Bool}, ExH G K cv i hs → hs[k]? = some (some b) → ∃ C, G.exc (i + k) = some C ∧ PySem.W.exmOne K (.ref C) cv = some b
  | [], _, _, _, _, e => by cases e
  | none :: hs, i, 0, b, h, e => by cases e
  | none :: hs, i, k + 1, b, h, e => by
    obtain ⟨C, h1, h2⟩ := ExH.at_ (hs := hs) (i := i + 1) (k := k) h e
    exact ⟨C, by rw [show i + (k + 1) = i + 1 + k by omega]; exact h1, h2⟩
  | some _ :: hs, i, 0, b, h, e => by cases e; exact h.1
  | some _ :: hs, i, k + 1, b, h, e => by
    obtain ⟨C, h1, h2⟩ := ExH.at_ (hs := hs) (i := i + 1) (k := k) h.2 e
    exact ⟨C, by rw [show i + (k + 1) = i + 1 + k by omega]; exact h1, h2⟩
end MM
namespace MM
open PySem L2 PySem.W
theorem key3_inj {j k : (Int × Int) × Int} (h : key3 j = key3 k) : j = k := by
  unfold key3 at h
  simp only [NestedKey.tup.injEq, List.cons.injEq, NestedKey.num.injEq, and_true] at h
  exact Prod.ext (Prod.ext h.1.1 h.1.2) h.2
theorem hash3 (k : (Int × Int) × Int) (w w' : World) : (key3 k).hash w = (key3 k).hash w' := by
  simp only [key3, NestedKey.hash, NestedKey.hashes]
theorem DN.stay {a : Addr} {xs : List Ent3} {h1 h2 : Heap} (x : DN a xs h1) (k : ∀ o, h1.get? a = some o → h2.get? a = some o) : DN a xs h2 := by
  obtain ⟨h1, h2, h3, w, o, es, ep, h4, r⟩ := x
  exact ⟨h1, h2, h3, w, o, es, ep, k _ h4, r⟩
theorem DN.ok {P : Program} {w : World} {H : Hp} {h : Heap} {a : Addr} {xs : List Ent3} (x : DN a xs h) : ObjOk P w H h a (.ext (DN a xs)) := by
  obtain ⟨h1, h2, h3, w, o, es, ep, h4, r⟩ := id x
  exact ⟨x, ⟨o, h4⟩, fun _ _ y k => y.stay k⟩
theorem nested3 {P : Program} {w : World} {H : Hp} {h : Heap} {r : Ad} {x : Ent3} (ok : HOk P w H h) (z : H x.2.2 = some (.tup [.int x.1.1.1, .int x.1.1.2]) ∧ H x.2.1 = some (.tup [.ref x.2.2, .int x.1.2])) : (nestedKind P w).is h (key3 x.1) x.2.1 := by
  obtain ⟨z1, z2⟩ := z
  obtain ⟨_, i1, r1, o1, a1, b1, n1, c1⟩ := (show ObjOk P w H h x.2.2 (.tup _) from ok _ _ z1)
  obtain ⟨_, i2, r2, o2, a2, b2, n2, c2⟩ := (show ObjOk P w H h x.2.1 (.tup _) from ok _ _ z2)
  refine ⟨?_, by simp [key3, NestedKey.depth, NestedKey.depthAll]⟩
  cases r1 with
  | cons p1 r1 => cases r1 with
    | cons p2 r1 =>
      cases r1
      obtain ⟨t1, rfl⟩ := p1
      obtain ⟨t2, rfl⟩ := p2
      cases r2 with
      | cons p3 r2 => cases r2 with
        | cons p4 r2 =>
          cases r2
          obtain ⟨t4, rfl⟩ := p4
          obtain rfl := (show _ = Value.ref x.2.2 from p3)
          exact .tup a2 b2 c2 (.cons (.tup a1 b1 c1 (.cons (.int _ _) (.cons (.int _ _) .nil))) (.cons (.int _ _) .nil))
def toH (xs : List Ent3) : List (NestedKey × Addr × Value) := xs.map fun x => (key3 x.1, x.2.1, .bool true)
theorem DN.dict {P : Program} {w : World} {H : Hp} {h : Heap} {a : Addr} {xs : List Ent3} (ok : HOk P w H h) (d : DN a xs h) (hk : ∀ x ∈ xs, H x.2.2 = some (.tup [.int x.1.1.1, .int x.1.1.2]) ∧ H x.2.1 = some (.tup [.ref x.2.2, .int x.1.2])) : h.DictOfH (nestedKind P w) a (toH xs) := by
  obtain ⟨h1, h2, h3, w', o, es, ep, h4, h5, h6, h7⟩ := d
  refine ⟨o, es, ep, h4, h5, h6, ?_, fun y hy => ?_, ?_⟩
  · rw [h7, toH, List.map_map]
    apply List.map_congr_left
    intro x _
    show (⟨(key3 x.1).hash w', .ref x.2.1, .bool true⟩ : DictEntry) = ⟨(key3 x.1).hash w, .ref x.2.1, .bool true⟩
    rw [hash3 x.1 w' w]
  · unfold toH at hy
    obtain ⟨x, hx, rfl⟩ := List.mem_map.mp hy
    exact nested3 (r := ⟨[], [], []⟩) ok (hk x hx)
  · have : (toH xs).map (·.1) = (xs.map (·.1)).map key3 := by simp [toH, Function.comp_def]
    rw [this, List.Nodup, List.pairwise_map]
    exact h3.imp fun hne e => hne (key3_inj e)
section
variable {X : Cx} {G : Glob} {W : WX} {r r1 r2 : Ad} {H H1 H2 : Hp} {h h1 : HM} {l : Loc} {s : Shared} {a : Addr} {n : Nat} {pos : Pos} {o e : Expr} {mo : EM}
def eDictN : EM := fun _ h => .ok (.ref h.length) (h ++ [.dN []])
def isK3 : Val → Option ((Int × Int) × Int)
  | .tup [.tup [.int a, .int b], .int c] => some ((a, b), c)
  | _ => none
def setN (o i v : Val) (h : HM) : Option HM := match o, v with
  | .ref n, .bl true => (match h[n]? with
    | some (.dN ks) => if ks.length < sizeLine then (isK3 i).map fun k => h.set n (.dN (if k ∈ ks then ks else ks ++ [k])) else none
    | _ => none)
  | _, _ => none
def sSubN (mo mi mv : EM) : SM := fun l h => (mv l h).thn l fun y h1 => (mo l h1).thn l fun o h2 => (mi l h2).thn l fun i h3 => match setN o i y h3 with
  | some h4 => .nx l h4
  | none => .bad
end
end MM
namespace MM
open PySem L2 PySem.W
noncomputable section
abbrev Row := Mk × Int
def eRow (r : Row) : Val := .tup [.int r.2, eM r.1]
/-- the rows of two: what the first one lacks, what the second one lacks -/
structure IsRows (S T : List Act) (R : List Row) : Prop where
  nd : R.Nodup
  sd : Sd R
  mem : ∀ r, r ∈ R ↔ (r.2 = 0 ∧ lacks S T r.1 = true) ∨ (r.2 = 1 ∧ lacks T S r.1 = true)
theorem IsRows.uniq {S T : List Act} {R Q : List Row} (h : IsRows S T R) (g : IsRows S T Q) : R = Q := sd_eq h.sd g.sd h.nd g.nd fun r => by rw [h.mem, g.mem]
def addN (ks : List Row) (k : Row) : List Row := if k ∈ ks then ks else ks ++ [k]
def rowStep (S : List Act) (c : Int) (ks : List Row) (a : Act) : List Row := if idxI a ∈ S.map idxI then ks else addN ks (a.which, c)
theorem addN_nd {ks : List Row} {k : Row} (h : ks.Nodup) : (addN ks k).Nodup := by
  unfold addN
  split
  · exact h
  · rename_i q
    rw [List.nodup_append]
    exact ⟨h, by simp, fun x hx y hy e => by simp at hy; subst hy e; exact q hx⟩
theorem addN_mem {ks : List Row} {k x : Row} : x ∈ addN ks k ↔ x ∈ ks ∨ x = k := by
  unfold addN
  split
  · rename_i q
    constructor
    · exact .inl
    · rintro (h | rfl)
      · exact h
      · exact q
  · simp
theorem rowFold_nd {S : List Act} {c : Int} : ∀ {L : List Act} {ks : List Row}, ks.Nodup → (L.foldl (rowStep S c) ks).Nodup
  | [], ks, h => h
  | a :: L, ks, h => rowFold_nd (L := L) (by unfold rowStep; split; exact h; exact addN_nd h)
theorem rowFold_mem {S : List Act} {c : Int} : ∀ {L : List Act} {ks : List Row} (x : Row), x ∈ L.foldl (rowStep S c) ks ↔ x ∈ ks ∨ (x.2 = c ∧ ∃ a ∈ L, a.which = x.1 ∧ idxI a ∉ S.map idxI)
  | [], ks, x => by simp
  | a :: L, ks, x => by
    have e : x ∈ rowStep S c ks a ↔ x ∈ ks ∨ (idxI a ∉ S.map idxI ∧ x = (a.which, c)) := by
      unfold rowStep
      by_cases q : idxI a ∈ S.map idxI
      · rw [if_pos q]; simp only [q, not_true_eq_false, false_and, or_false]
      · rw [if_neg q, addN_mem]; simp only [q, not_false_eq_true, true_and]
    rw [List.foldl_cons, rowFold_mem, e]
    constructor
    · rintro ((h | ⟨h1, h2⟩) | ⟨h1, b, hb, h2⟩)
      · exact .inl h
      · subst h2; exact .inr ⟨rfl, a, List.mem_cons_self, rfl, h1⟩
      · exact .inr ⟨h1, b, List.mem_cons_of_mem _ hb, h2⟩
    · rintro (h | ⟨h1, b, hb, h2, h3⟩)
      · exact .inl (.inl h)
      · rcases List.mem_cons.mp hb with rfl | hb
        · exact .inl (.inr ⟨h3, Prod.ext h2.symm h1⟩)
        · exact .inr ⟨h1, b, hb, h2, h3⟩
theorem rowFold_len {S : List Act} {c : Int} : ∀ {L : List Act} {ks : List Row}, (L.foldl (rowStep S c) ks).length ≤ ks.length + L.length
  | [], ks => by simp
  | a :: L, ks => by
    have := rowFold_len (S := S) (c := c) (L := L) (ks := rowStep S c ks a)
    have h2 : (rowStep S c ks a).length ≤ ks.length + 1 := by
      unfold rowStep addN
      split
      · omega
      · split <;> simp
    simp only [List.foldl_cons, List.length_cons]
    omega
theorem lacks_ex {S T : List Act} {w : Mk} : lacks S T w = true ↔ ∃ a ∈ T, a.which = w ∧ idxI a ∉ S.map idxI := by
  unfold lacks
  rw [List.any_eq_true]
  simp only [Bool.and_eq_true, decide_eq_true_eq, Bool.not_eq_true', decide_eq_false_iff_not]
theorem rows_is {S T : List Act} : IsRows S T (srt (S.foldl (rowStep T 1) (T.foldl (rowStep S 0) []))) := by
  refine ⟨srt_nd (rowFold_nd (rowFold_nd List.nodup_nil)), srt_srt _, fun r => ?_⟩
  rw [srt_mem, rowFold_mem, rowFold_mem, lacks_ex, lacks_ex]
  simp only [List.not_mem_nil, false_or]
section
variable {D : Loci} {W : Wo} {h : HM} {i j : Nat}
@[simp] theorem ev_eDictN {l : Loc} {h : HM} : eDictN l h = .ok (.ref h.length) (h ++ [.dN []]) := (rfl)
@[simp] theorem ev_sSubN {mo mi mv : EM} {l : Loc} {h : HM} : sSubN mo mi mv l h = (mv l h).thn l fun y h1 => (mo l h1).thn l fun o h2 => (mi l h2).thn l fun i h3 => match setN o i y h3 with
  | some h4 => .nx l h4
  | none => .bad := (rfl)
end
end
end MM
namespace MM
open PySem L2 PySem.W
noncomputable section
def Nx {α : Type} (x : Res α) : Prop := ∀ c h, x ≠ .exc c h
def NxE (m : EM) : Prop := ∀ l h, Nx (m l h)
def NxA (m : AM) : Prop := ∀ l h, Nx (m l h)
def NxT (m : TM) : Prop := ∀ l h, Nx (m l h)
def NxI (m : IM) : Prop := ∀ l h, Nx (m l h)
def NxF (m : FM) : Prop := ∀ xs h, Nx (m xs h)
def NxS (m : SM) : Prop := ∀ l h, ∀ c l' h', m l h ≠ .exc c l' h'
theorem Nx.ok {α : Type} {a : α} {h : HM} : Nx (.ok a h) := fun _ _ e => by cases e
theorem Nx.bad {α : Type} : Nx (.bad : Res α) := fun _ _ e => by cases e
theorem Nx.bind {α β : Type} {x : Res α} {k : α → HM → Res β} (hx : Nx x) (hk : ∀ a h, Nx (k a h)) : Nx (x.bind k) := by
  cases x with
  | ok a h => exact hk a h
  | exc c h => exact absurd rfl (hx c h)
  | bad => exact .bad
theorem NxE.c {v : Val} : NxE (eC v) := fun _ _ => .ok
theorem NxA.nil : NxA aNil := fun _ _ => .ok
theorem NxA.cons {a : EM} {t : AM} (ha : NxE a) (ht : NxA t) : NxA (aCons a t) := fun l h => (ha l h).bind fun x h1 => (ht l h1).bind fun xs h2 => .ok
theorem nx_mkTup {xs : List Val} {h : HM} : Nx (mkTup xs h) := by unfold mkTup; split; exact .ok; exact .bad
theorem NxE.tup {m : AM} (ha : NxA m) : NxE (eDisp mkTup m) := fun l h => (ha l h).bind fun xs h1 => nx_mkTup
theorem NxE.call {m : FM} {as : AM} (hm : NxF m) (ha : NxA as) : NxE (eCall m as) := fun l h => (ha l h).bind fun xs h1 => hm xs h1
theorem NxE.meth {c : Nat} {m : FM} {mo : EM} {as : AM} (hm : NxF m) (ho : NxE mo) (ha : NxA as) : NxE (eMeth c m mo as) := fun l h => (ho l h).bind fun o h1 => by
  split
  · exact (ha l h1).bind fun xs h2 => hm _ h2
  · exact .bad
theorem NxT.of {m : EM} (hm : NxE m) : NxT (tOf m) := fun l h => (hm l h).bind fun v h1 => by
  unfold toB; split
  · exact .ok
  · exact .bad
theorem NxI.val {m : EM} (hm : NxE m) : NxI (iVal m) := fun l h => (hm l h).bind fun v h1 => by
  unfold srcOf
  repeat' split
  all_goals first | exact .ok | exact .bad
theorem NxE.and {a b : EM} (ha : NxE a) (hb : NxE b) : NxE (eAndM a b) := fun l h => (ha l h).bind fun x h1 => by
  refine Nx.bind (by unfold toB; split; exact .ok; exact .bad) fun c h2 => ?_
  split
  · exact hb l h2
  · exact .ok
theorem NxS.ret {m : EM} (hm : NxE m) : NxS (sRet m) := fun l h c l' h' e => by
  unfold sRet at e
  cases x : m l h with
  | ok a h1 => rw [x] at e; cases e
  | exc c h1 => exact hm l h _ _ x
  | bad => rw [x] at e; cases e
theorem NxF.of {n : Nat} {b : SM} (hb : NxS b) : NxF (mF n b) := fun xs h c h' e => by
  unfold mF at e
  split at e <;> first | (cases e; done) | (rename_i x; exact hb _ _ _ _ _ x)
end
end MM
namespace MM
open PySem L2 PySem.W
noncomputable section
@[simp] theorem ev_sTry {hs : List (Option Bool)} {mb ms : SM} {l : Loc} {h : HM} : sTry hs mb ms l h = match mb l h with
  | .exc c l' h' => (match hs[c]? with
    | some (some true) => ms l' h'
    | some (some false) => .exc c l' h'
    | _ => .bad)
  | r => r := (rfl)
structure MeetAt (h : HM) (mt a b L : Nat) (R : List Row) : Prop where
  ins : h[mt]? = some (.ins 1 [.tup [.ref a, .ref b], .ref L])
  rows : h[L]? = some (.lst (R.map eRow))
theorem MeetAt.app {h g : HM} {mt a b L : Nat} {R : List Row} (M : MeetAt h mt a b L R) : MeetAt (h ++ g) mt a b L R :=
  ⟨by rw [List.getElem?_append_left (List.getElem?_eq_some_iff.mp M.ins).1]; exact M.ins, by rw [List.getElem?_append_left (List.getElem?_eq_some_iff.mp M.rows).1]; exact M.rows⟩
section
variable {D : Loci} {W : Wo} {h : HM} {i j mt L : Nat} {R : List Row}
theorem MeetAt.isI {a c : Nat} (M : MeetAt h mt a c L R) : isIns 1 (.ref mt) h = true := by simp [isIns, M.ins]
theorem MeetAt.f0 {a c : Nat} (M : MeetAt h mt a c L R) : getF 1 0 (.ref mt) h = .ok (.tup [.ref a, .ref c]) h := by simp [getF, M.ins]
theorem MeetAt.f1 {a c : Nat} (M : MeetAt h mt a c L R) : getF 1 1 (.ref mt) h = .ok (.ref L) h := by simp [getF, M.ins]
end
end
end MM
namespace MM
open PySem L2 PySem.W
noncomputable section
/-- what a meeting does to the world -/
structure Met (W W' : Wo) (i j : Nat) : Prop where
  m : W'.m = W.m
  num : W'.num = W.num
  ct : W'.ct = W.ct
  A : W'.A = W.A
  V : W'.V = W.V
  out : W'.out = W.out
  oth : ∀ k, k ≠ i → k ≠ j → W'.S k = W.S k
  grow : ∀ k a, a ∈ W.S k → a ∈ W'.S k
  sub : ∀ k a, a ∈ W'.S k → a ∈ W.S k ∨ a ∈ W.S i ∨ a ∈ W.S j
theorem Met.trans {W W' W2 : Wo} {i j : Nat} (a : Met W W' i j) (b : Met W' W2 i j) : Met W W2 i j :=
  ⟨b.m.trans a.m, b.num.trans a.num, b.ct.trans a.ct, b.A.trans a.A, b.V.trans a.V, b.out.trans a.out, fun k h1 h2 => (b.oth k h1 h2).trans (a.oth k h1 h2), fun k x h => b.grow k x (a.grow k x h), fun k x h => by
    rcases b.sub k x h with h | h | h
    · exact a.sub k x h
    · rcases a.sub i x h with h | h | h
      · exact .inr (.inl h)
      · exact .inr (.inl h)
      · exact .inr (.inr h)
    · rcases a.sub j x h with h | h | h
      · exact .inr (.inr h)
      · exact .inr (.inl h)
      · exact .inr (.inr h)⟩
end
end MM
namespace MM
open PySem L2 PySem.W
noncomputable section
section
variable {D : Loci} {W : Wo} {h : HM} {i j : Nat}
theorem IsRows.len (O : WOk W) (hi : i < W.m) (hj : j < W.m) {R : List Row} (hR : IsRows (W.S i) (W.S j) R) : R.length ≤ 2 * W.A.length := by
  have e := hR.uniq rows_is
  have h1 := rowFold_len (S := W.S i) (c := 0) (L := W.S j) (ks := [])
  have h2 := rowFold_len (S := W.S j) (c := 1) (L := W.S i) (ks := (W.S j).foldl (rowStep (W.S i) 0) [])
  have h3 := (O.cl i hi).len O.ok
  have h4 := (O.cl j hj).len O.ok
  rw [e, srt_len]
  simp only [List.length_nil] at h1
  omega
end
end
end MM
namespace MM
open PySem L2 PySem.W
noncomputable section
section
variable {D : Loci} {W : Wo} {h : HM} {i j mt L : Nat} {R : List Row}
/-- no row: both heard of the same -/
theorem IsRows.none (O : WOk W) (hi : i < W.m) (hj : j < W.m) (hR : IsRows (W.S i) (W.S j) []) (a : Act) : a ∈ W.S i ↔ a ∈ W.S j := by
  have CI := O.cl i hi
  have CJ := O.cl j hj
  constructor
  · intro ha
    apply Classical.byContradiction
    intro hn
    have := (hR.mem (a.which, 1)).mpr (.inr ⟨rfl, (lacks_iff O.ok CJ CI).mpr ⟨a, ha, rfl, hn⟩⟩)
    cases this
  · intro ha
    apply Classical.byContradiction
    intro hn
    have := (hR.mem (a.which, 0)).mpr (.inl ⟨rfl, (lacks_iff O.ok CI CJ).mpr ⟨a, ha, rfl, hn⟩⟩)
    cases this
end
end
end MM
namespace MM
open PySem L2 PySem.W
noncomputable section
theorem getK_put {κ : Type} [DecidableEq κ] {kvs : List (κ × Val)} {k j : κ} {v : Val} : getK (putV kvs k v) j = if j = k then some v else getK kvs j := by
  unfold putV
  split
  · rename_i ha
    induction kvs with
    | nil => simp at ha
    | cons x xs ih =>
      have hm : ((x :: xs).map fun kv => if kv.1 = k then (kv.1, v) else kv) = (if x.1 = k then (x.1, v) else x) :: xs.map fun kv => if kv.1 = k then (kv.1, v) else kv := rfl
      rw [hm]
      by_cases hx : x.1 = k
      · rw [if_pos hx]
        by_cases hj : j = k
        · subst hj; simp [getK, hx]
        · have : ¬ x.1 = j := fun e => hj (e.symm.trans hx)
          rw [if_neg hj]
          have e1 : ∀ (a : Val) (ys : List (κ × Val)), getK ((x.1, a) :: ys) j = getK ys j := fun a ys => by simp [getK, this]
          have e2' : getK (x :: xs) j = getK xs j := by simp [getK, this]
          rw [e1, e2']
          by_cases hh : (xs.any fun kv => decide (kv.1 = k)) = true
          · have := ih hh
            rw [if_neg hj] at this
            exact this
          · have : (xs.map fun kv => if kv.1 = k then (kv.1, v) else kv) = xs := by
              conv => rhs; rw [← List.map_id xs]
              refine List.map_congr_left fun y hy => ?_
              rw [if_neg]
              · rfl
              · intro e
                apply hh
                rw [List.any_eq_true]
                exact ⟨y, hy, by simp [e]⟩
            rw [this]
      · rw [if_neg hx]
        have hh : (xs.any fun kv => decide (kv.1 = k)) = true := by simpa [hx] using ha
        by_cases hxj : x.1 = j
        · have hj : ¬ j = k := fun e => hx (hxj.trans e)
          simp [getK, hxj, hj]
        · have e1 : ∀ ys : List (κ × Val), getK (x :: ys) j = getK ys j := fun ys => by simp [getK, hxj]
          rw [e1, e1]
          exact ih hh
  · rename_i ha
    by_cases hj : j = k
    · subst hj
      have : kvs.find? (fun kv => decide (kv.1 = j)) = none := by
        rw [List.find?_eq_none]
        intro y hy e
        apply ha
        rw [List.any_eq_true]
        exact ⟨y, hy, e⟩
      simp [getK, List.find?_append, this]
    · have : ¬ k = j := fun e => hj e.symm
      simp [getK, List.find?_append, hj, this]
theorem putV_len {κ : Type} [DecidableEq κ] {kvs : List (κ × Val)} {k : κ} {v : Val} : (putV kvs k v).length ≤ kvs.length + 1 := by
  unfold putV
  split <;> simp
def cntS (P : List (Str × Mk)) (s : Str) : Nat := (P.filter fun p => decide (p.1 = s)).length
theorem cntS_snoc {P : List (Str × Mk)} {p : Str × Mk} {s : Str} : cntS (P ++ [p]) s = if s = p.1 then cntS P s + 1 else cntS P s := by
  unfold cntS
  rw [List.filter_append, List.length_append]
  by_cases h : s = p.1
  · simp [h]
  · have : ¬ p.1 = s := fun e => h e.symm
    simp [h, this]
/-- a dict that counts -/
def Cnt (kv : List (Key × Val)) (P : List (Str × Mk)) : Prop := (∀ s, getK kv (.inr s) = if cntS P s = 0 then none else some (.int (cntS P s : Nat))) ∧ kv.length ≤ P.length
theorem Cnt.nil : Cnt [] [] := ⟨fun s => rfl, Nat.le_refl _⟩
theorem Cnt.put {kv : List (Key × Val)} {P : List (Str × Mk)} {p : Str × Mk} (C : Cnt kv P) : Cnt (putV kv (.inr p.1) (.int ((cntS P p.1 : Nat) + 1))) (P ++ [p]) := by
  refine ⟨fun s => ?_, ?_⟩
  · rw [getK_put, cntS_snoc]
    by_cases h : s = p.1
    · subst h; simp
    · have : ¬ (Sum.inr s : Key) = .inr p.1 := fun e => h (Sum.inr.inj e)
      rw [if_neg this, if_neg h, C.1]
  · have := putV_len (kvs := kv) (k := (Sum.inr p.1 : Key)) (v := .int ((cntS P p.1 : Nat) + 1))
    have := C.2
    simp; omega
/-- a name -/
def Nm (s : Str) : Prop := isName (.str s) = true
theorem Nm.len {s : Str} (h : Nm s) : s.length ≤ 6 := by
  unfold Nm isName at h
  simp only [Bool.and_eq_true, decide_eq_true_eq] at h
  exact h.1.2
theorem Nm.lets {s : Str} (h : Nm s) : ∀ c ∈ s.cps.toList, c ∈ MM.lets := by
  unfold Nm isName at h
  simp only [Bool.and_eq_true, List.all_eq_true, decide_eq_true_eq] at h
  exact h.2
theorem Gd.nm {n : Nat} {F : Fl} (g : Gd n F) : Nm (nameF F) := by
  unfold nameF
  cases e : F.names.map (·.2) with
  | nil => exact g.first
  | cons y ys =>
    have hm : minOf y ys ∈ F.names.map (·.2) := by rw [e]; exact minOf_mem
    obtain ⟨p, hp, h2⟩ := List.mem_map.mp hm
    show Nm (minOf y ys)
    rw [← h2]
    exact g.names.ri p hp
theorem Nm.ok {s : Str} (h : Nm s) : PyData.strOk s = true := by
  unfold PyData.strOk
  rw [← Array.all_toList, List.all_eq_true]
  intro c hc
  have h1 := h.lets c hc
  have : ∀ c ∈ MM.lets, c < 0x110000 := by decide
  exact decide_eq_true (this c h1)
section
variable {n : Nat} {own acts : Int} {E : List (Mk × Fl)} {h : HM} {w : Mk} {f : Fl}
theorem HE.f2 (H : HE h n own acts E) : getF 0 2 (.ref n) h = .ok (.ref (n + 1)) h := by
  obtain ⟨D, e, q⟩ := H
  exact q.f2
end
end
end MM
namespace MM
open PySem PySem.W PySem.Calls PyProof.Rows PyProof.V PySem.Spec
section
variable {K : Type} [DecidableEq K] {prog : Program} {w : World} {knd : HeapKind prog w K}
theorem meetsPop1 {d b : Addr} {k : K} :
    MeetsIn prog w (Builtin.«dict.pop» ⟨[.ref d, .ref b], []⟩) (fun A R s => ∃ xs, ∃ p : Addr × Value, knd.room A.in1 ∧ knd.is s.heap k b ∧ s.heap.DictOfH knd d xs ∧ xs.length ≤ sizeLine ∧ atKey xs k = some p ∧
      ∀ h' tk, h'.DictOfH knd d (DT.dropH xs k) → Heap.SameBut d s.heap h' → R (.ok (.ret p.2)) { s with heap := h', toks := tk }) :=
  .of_wp fun A R s ⟨xs, p, hu, hkey, hm, hsz, hp, hsome⟩ => by
    obtain ⟨o, es, ep, ho, hc, hdat, he, his, hn⟩ := id hm
    have hes : es.size = xs.length := size_of_entries he
    have hpart : (keyPart (Value.ref b)).isSome = false := rfl
    unfold Builtin.«dict.pop»
    refine wpAny_bind ?_
    unfold Builtin.Dict.keyAndDefault
    refine wpAny_bind (wpAny_notOrdered_dict hm.typeIs ?_)
    show wpAny _ _ (pure (d, Value.ref b, none)) _ _ s
    refine wpAny_pure ?_
    simp only [hpart, Bool.false_eq_true, if_false]
    refine wpAny_bind (wpAny_dictEntries ho hdat (wpAny_bind (wpAny_pure ?_)))
    cases hem : es.isEmpty with
    | true =>
      have h0 : xs = [] := by
        have z : es.size = 0 := by simpa using hem
        exact List.length_eq_zero_iff.mp (by omega)
      rw [h0] at hp
      exact absurd hp (by intro z; cases z)
    | false =>
      simp only [Bool.false_eq_true, if_false]
      refine wpAny_bind (DT.takeH hu hkey hm hsz (fun hno => absurd (hno.symm.trans hp) (by intro z; cases z)) fun p' e hp' hev h' hm' hs' => ?_)
      obtain rfl : p' = p := Option.some.inj (hp'.symm.trans hp)
      simp only [Option.isNone_some, Bool.false_eq_true, if_false]
      exact wpAny_bind (wpAny_letGo (wpAny_pure ⟨e.val, rfl, by rw [hev]; exact hsome h' _ hm' hs'⟩))
end
end MM
namespace L2
open PySem PySem.Spec PyProof.Rows
section
variable {X : Cx} {pins : List (Addr × Obj)} {σ : St} {H : Hp} {s : Shared} {a b : Addr} {kvs : List (List Key × V)} {k : List Key} {A : Around} {E : Value → Shared → Prop}
theorem d_popT {v : V} {Q : Value → Shared → Prop} (hu : A.units + 1 < cLine) (I : Inv X pins σ H s) (e : H a = some (.dT kvs)) (eb : H b = some (.tup (k.map kV))) (l : valV kvs k = some v)
    (h : ∀ w' s', Inv X pins σ (upd H a (.dT (dropK kvs k))) s' → RelV v w' → Q w' s') : wpAny (model X.prog X.w) A (call (.builtin "dict.pop") [.ref a, .ref b]) Q E s := by
  obtain ⟨z, hd, xs', rel, dd⟩ := dt_of I.hok e
  have hz : xs'.length ≤ sizeLine := by rw [← Paired.length rel]; exact z
  obtain ⟨p, hp, rv⟩ : ∃ p, atKey xs' k = some p ∧ RelV v p.2 := by
    have r := rel.val k
    rw [l] at r
    cases hk : atKey xs' k with
    | none => rw [hk] at r; exact (show False from r).elim
    | some p => rw [hk] at r; exact ⟨p, rfl, r⟩
  refine call_meetsIn PySem.F.slot_dict_pop dd.typeIs PySem.F.entry_dict_pop (PySem.F.args_dict_pop_2 _ _) (MM.meetsPop1 (knd := tupleKind (mixKind X.prog X.w)) (k := k))
    ⟨xs', p, tupleKind_room_in1 hu, key_of I.hok eb, dd, hz, hp, fun h' tk dd' hs => ?_⟩
  obtain ⟨o, es, ep, hq, h2, h3, h4, _, h5⟩ := dd'
  have I2 : Inv X pins σ (upd H a (.dT (dropK kvs k))) { s with heap := h', toks := tk } :=
    d_write I (by rw [e]; exact True.intro) hs ⟨o, hq⟩ ⟨Nat.le_trans (dropK_le kvs k) z, hd, _, (L2.DX.KT_drop k rel).keeps (fun c ys ec => (by rw [upd_ne (ne_of ec e (fun z => nomatch z))]; exact ec)), o, es, ep, hq, h2, h3, h4, h5⟩
  exact h p.2 _ I2 rv
def tDPopT (td ty : TE) : TE := fun σ H Q => td σ H fun x H1 => ∃ a, x = .ref a ∧ IsD H1 a ∧ ty σ H1 fun y H2 => ∃ kvs k b v, H2 a = some (.dT kvs) ∧ y = .ref b ∧ H2 b = some (.tup (k.map kV)) ∧ valV kvs k = some v ∧ Q v (upd H2 a (.dT (dropK kvs k)))
variable {o e : Expr} {apos cpos : Pos} {td ty : TE}
theorem pe_dpopT (hu : X.A.units + 1 < cLine) (ho : PE X o td) (he : PE X e ty) (m : M1 X o "pop" apos e cpos) : PE X (.Call (.Attribute o "pop" apos) [e] [] cpos) (tDPopT td ty) := by
  refine ⟨fun pins s σ H Q I h => ?_⟩
  refine wpAny_Call_method m.base m.few m.line PySem.F.plainAttrs_dict PySem.F.slot_dict_pop PySem.F.type_dict_pop (thn (ho.run pins s σ H _ I h) fun u s1 ⟨x, H1, I1, rx, a, ex, d, q1⟩ => ?_)
  subst ex
  obtain rfl : u = Value.ref a := rx
  obtain ⟨t1, t2, _⟩ := isD_at I1 d
  refine ⟨t1, t2, ?_⟩
  rw [m.trees]
  refine Calls.callWith_builtin rfl (Calls.evalArgs_plain (Calls.spliced_cons (thn (he.run pins s1 σ H1 _ I1 q1) fun iv s2 ⟨y, H2, I2, ry, kvs, k, b, v, ea, ey, eb, l, q2⟩ => Calls.spliced_nil ?_)))
  subst ey
  obtain rfl : iv = Value.ref b := ry
  exact d_popT hu I2 ea eb l fun w' s3 I3 rw' => ⟨v, _, I3, rw', q2⟩
end
end L2
namespace MM
open PySem L2
section
variable {X : Cx} {G : Glob} {W : WX} {r r1 r2 : Ad} {H H1 H2 : Hp} {h h1 : HM} {l : Loc} {s : L2.St} {a : Addr}
theorem KR.drop {κ : Type} [DecidableEq κ] (k : κ) : ∀ {kvs : List (κ × Val)} {kv : List (κ × V)}, KR G r H kvs kv → KR G r H (dropV kvs k) (L2.dropK kv k)
  | _, _, .nil => .nil
  | p :: t, p' :: t', .cons a b => by
    have ih := KR.drop k b
    by_cases e : p.1 = k
    · have e' : p'.1 = k := a.1 ▸ e
      have z1 : dropV (p :: t) k = dropV t k := List.filter_cons_of_neg (by simp [e])
      have z2 : L2.dropK (p' :: t') k = L2.dropK t' k := List.filter_cons_of_neg (by simp [e'])
      rw [z1, z2]; exact ih
    · have e' : ¬ p'.1 = k := a.1 ▸ e
      have z1 : dropV (p :: t) k = p :: dropV t k := List.filter_cons_of_pos (by simp [e])
      have z2 : L2.dropK (p' :: t') k = p' :: L2.dropK t' k := List.filter_cons_of_pos (by simp [e'])
      rw [z1, z2]; exact .cons a ih
def eDPop (mo me : EM) : EM := fun l h => (mo l h).bind fun o h1 => match o with
  | .ref n => if isDict n h1 = true then (me l h1).bind fun y h2 => match h2[n]? with
    | some (.dT kvs) => (match tkey y with
      | some k => (match getK kvs k with
        | some v => .ok v (h2.set n (.dT (dropV kvs k)))
        | none => .bad)
      | none => .bad)
    | _ => .bad else .bad
  | _ => .bad
variable {o e : Expr} {mo me : EM} {apos cpos : Pos}
theorem me_dpop (hu : X.A.units + 1 < cLine) (ho : ME X G W o mo) (he : ME X G W e me) (m : M1 X o "pop" apos e cpos := by exact ⟨rfl, rfl, rfl, rfl⟩) : ME X G W (.Call (.Attribute o "pop" apos) [e] [] cpos) (eDPop mo me) := by
  refine ⟨fun pins s σ H Q I ⟨r, h, l, q, hl, pp⟩ => (pe_dpopT hu ho he m).run pins s σ H Q I ⟨r, h, l, q, hl, (Post.bind pp).imp fun x H1 ⟨r1, h1, w1, e1, q1, z1, p1⟩ => ?_⟩⟩
  cases z1 with
  | @ref n a e0 =>
    dsimp only at p1
    split at p1
    · rename_i hk
      have hd : IsD H1 a := isDict_ok q1 e0 hk
      refine ⟨a, rfl, hd, r1, h1, l, q1, hl.ext e1, (Post.bind p1).imp fun y H2 ⟨r2, h2, w2, e2, q2, z2, p2⟩ => ?_⟩
      have e0' := pre_get e2.pre e0
      dsimp only at p2
      split at p2
      · rename_i kvs hn
        have hob := q2.ob n a _ e0' hn
        cases hob with
        | @dT _ kv g1 g2 =>
        have nf : ∀ o u, H2 a ≠ some (.frz o u) := fun o u z => by rw [g1] at z; cases z
        split at p2
        · rename_i k hk2
          split at p2
          · rename_i v hv
            obtain ⟨u, hu', zu⟩ := (getK_ok g2 k).1 v hv
            cases z2 with
            | @tup ys vs b d oo zz =>
              have := keys_V zz hk2
              subst this
              exact ⟨kv, k, _, u, g1, rfl, d, hu', p2 r2 _ _ (ext_write q2 e0' nf) (q2.write e0' nf (.dT upd_same ((g2.drop k).ext (ext_write q2 e0' nf)))) (zu.ext (ext_write q2 e0' nf))⟩
            | _ => cases hk2
          · exact p2.elim
        · exact p2.elim
      · exact p2.elim
    · exact p1.elim
  | _ => exact p1.elim
end
end MM
namespace MM
open PySem L2 PySem.W
noncomputable section
def m_House_lead_on : FM := mF 2 (sSeq (sIf (tAndM (tTru (eCall m_is_gone (aCons (eVar 1) (aNil)))) (tOf (e2 vNotIn (e2 vIx (eVar 1) (eC (.int 0))) (eFld 0 2 (eVar 0))))) (sRet (eC (.bl false))) (sNil))
  (sRet (eMeth 0 m_House_take (eVar 0) (aCons (eVar 1) (aNil)))))
def m_House_told_by : FM := mF 5 (sSub (eFld 0 3 (eVar 0)) (eVar 1) (eBi bDictT (aCons (eLc (iVal (eVar 2)) (gTp 2 (gsCons (gNm 3) (gsCons (gNm 4) (gsNil)))) (tYesM) (eDisp mkTup (aCons (eVar 3) (aCons (eVar 4) (aNil)))) [3, 4] frozen) (aNil))))
def m_House_can_forget_f0 : SM := sSeq (sAsg (e2 vIx (e2 vIx (eFld 0 2 (eVar 0)) (eVar 3)) (eC (.int 2))) (gNm 4))
  (sIf (tTru (eBi bAll (aCons (eLc (iVal (eVar 1)) (gNm 5) (tYesM) (e2 vEq (eGet2 (eGet2 (eFld 0 3 (eVar 0)) (eVar 5) (eDictT)) (eVar 3) (eDisp mkTup (aNil))) (eVar 4)) [5] frozen) (aNil)))) (sDrop (eBm .list mAppend (eVar 2) (aCons (eVar 3) (aNil)))) (sNil))
def m_House_can_forget : FM := mF 6 (sSeq (sAsg (eDisp mkRef (aNil)) (gNm 2))
  (sSeq (sFor (iVal (eMeth 0 m_House_gone (eVar 0) aNil)) (gNm 3) m_House_can_forget_f0)
  (sRet (eBi bTuple (aCons (eVar 2) (aNil))))))
def m_House_forget_f0 : SM := sDrop (eDPop (eFld 0 2 (eVar 0)) (eVar 3))
def m_House_forget : FM := mF 4 (sSeq (sAsg (eMeth 0 m_House_can_forget (eVar 0) (aCons (eVar 1) (aNil))) (gNm 2))
  (sSeq (sFor (iVal (eVar 2)) (gNm 3) m_House_forget_f0)
  (sRet (eBi bLen (aCons (eVar 2) (aNil))))))
@[simp] theorem ev_eDPop {mo me : EM} {l : Loc} {h : HM} : eDPop mo me l h = (mo l h).bind fun o h1 => match o with
  | .ref n => if isDict n h1 = true then (me l h1).bind fun y h2 => match h2[n]? with
    | some (.dT kvs) => (match tkey y with
      | some k => (match getK kvs k with
        | some v => .ok v (h2.set n (.dT (dropV kvs k)))
        | none => .bad)
      | none => .bad)
    | _ => .bad else .bad
  | _ => .bad := rfl
abbrev KB := List Mk × Bool
def eKB (p : KB) : Val := kB p.2 p.1
structure Tl where
  num : Int
  ad : Nat
  rows : List (Mk × KB)
def tdV (T : List Tl) : List (Key × Val) := T.map fun t => (.inl t.num, .ref t.ad)
structure TdAt (h : HM) (n : Nat) (T : List Tl) : Prop where
  td : h[n + 2]? = some (.dK (tdV T))
  rows : ∀ t ∈ T, h[t.ad]? = some (.dT (kvM eKB t.rows)) ∧ n + 2 < t.ad
def findT (T : List Tl) (j : Int) : Option Tl := T.find? fun t => decide (t.num = j)
def toldR (T : List Tl) (j : Int) : List (Mk × KB) := match findT T j with
  | some t => t.rows
  | none => []
def toldK (T : List Tl) (j : Int) (w : Mk) : List Mk := match getM (toldR T j) w with
  | some q => q.1
  | none => []
def putTl (T : List Tl) (t : Tl) : List Tl := if (T.any fun x => decide (x.num = t.num)) = true then T.map (fun x => if x.num = t.num then t else x) else T ++ [t]
theorem inl_dec {a b : Int} : decide ((Sum.inl a : Key) = .inl b) = decide (a = b) := by
  by_cases h : a = b
  · subst h; simp
  · have : ¬ (Sum.inl a : Key) = .inl b := fun z => h (Sum.inl.inj z)
    simp [h, this]
theorem get_tdV {T : List Tl} {j : Int} : getK (tdV T) (.inl j) = (findT T j).map fun t => .ref t.ad := by
  unfold getK tdV findT
  induction T with
  | nil => rfl
  | cons t T ih =>
    simp only [List.map_cons, List.find?_cons, inl_dec]
    by_cases e : t.num = j
    · simp [e]
    · simp only [e, decide_false]; exact ih
theorem put_tdV {T : List Tl} {t : Tl} : putV (tdV T) (.inl t.num) (.ref t.ad) = tdV (putTl T t) := by
  have h1 : ((tdV T).any fun kv => decide (kv.1 = .inl t.num)) = T.any fun x => decide (x.num = t.num) := by
    unfold tdV
    rw [List.any_map]
    congr 1
    funext x
    exact inl_dec
  unfold putV putTl
  rw [h1]
  by_cases h : (T.any fun x => decide (x.num = t.num)) = true
  · rw [if_pos h, if_pos h]
    unfold tdV
    rw [List.map_map, List.map_map]
    apply List.map_congr_left
    intro x _
    simp only [Function.comp]
    by_cases q : x.num = t.num
    · rw [if_pos (by rw [q]), if_pos q, q]
    · rw [if_neg (fun z => q (Sum.inl.inj z)), if_neg q]
  · rw [if_neg h, if_neg h]
    simp [tdV]
theorem find_putTl {T : List Tl} {t : Tl} {j : Int} : findT (putTl T t) j = if j = t.num then some t else findT T j := by
  unfold putTl findT
  by_cases h : (T.any fun x => decide (x.num = t.num)) = true
  · rw [if_pos h]
    induction T with
    | nil => cases h
    | cons x T ih =>
      simp only [List.map_cons, List.find?_cons]
      by_cases q : x.num = t.num
      · rw [if_pos q]
        by_cases r : j = t.num
        · rw [if_pos r, r]; simp
        · have n1 : ¬ t.num = j := fun z => r z.symm
          have n2 : ¬ x.num = j := fun z => r (z.symm.trans q)
          simp only [n1, n2, decide_false, if_neg r]
          by_cases h2 : (T.any fun x => decide (x.num = t.num)) = true
          · rw [ih h2, if_neg r]
          · have : T.map (fun x => if x.num = t.num then t else x) = T := by
              rw [List.map_congr_left (g := id)]
              · simp
              · intro y hy
                have : ¬ y.num = t.num := fun z => h2 (List.any_eq_true.mpr ⟨y, hy, by simp [z]⟩)
                simp [this]
            rw [this]
      · rw [if_neg q]
        by_cases r : x.num = j
        · have : ¬ j = t.num := fun z => q (r.trans z)
          simp [r, this]
        · simp only [r, decide_false]
          exact ih (by simpa [q] using h)
  · rw [if_neg h, List.find?_append]
    by_cases r : j = t.num
    · rw [if_pos r, r]
      have : (T.find? fun x => decide (x.num = t.num)) = none := by
        rw [List.find?_eq_none]
        intro x hx z
        exact h (List.any_eq_true.mpr ⟨x, hx, z⟩)
      rw [this]; simp
    · rw [if_neg r]
      have : ¬ t.num = j := fun z => r z.symm
      simp [this]
theorem toldK_put {T : List Tl} {t : Tl} {j : Int} {w : Mk} : toldK (putTl T t) j w = if j = t.num then (match getM t.rows w with | some q => q.1 | none => []) else toldK T j w := by
  unfold toldK toldR
  rw [find_putTl]
  by_cases e : j = t.num
  · rw [if_pos e, if_pos e]
  · rw [if_neg e, if_neg e]
theorem putTl_len {T : List Tl} {t : Tl} : (putTl T t).length ≤ T.length + 1 := by
  unfold putTl
  split <;> simp
theorem mem_putTl {T : List Tl} {t x : Tl} (h : x ∈ putTl T t) : x = t ∨ x ∈ T := by
  unfold putTl at h
  split at h
  · obtain ⟨y, hy, e⟩ := List.mem_map.mp h
    by_cases q : y.num = t.num
    · rw [if_pos q] at e; exact .inl e.symm
    · rw [if_neg q] at e; subst e; exact .inr hy
  · rcases List.mem_append.mp h with h | h
    · exact .inr h
    · exact .inl (List.mem_singleton.mp h)
section
variable {h h' : HM} {n : Nat} {own acts : Int} {E : List (Mk × Fl)} {w : Mk} {F : Fl} {T : List Tl}
theorem TdAt.app {g : HM} (Td : TdAt h n T) : TdAt (h ++ g) n T := by
  refine ⟨?_, fun t ht => ⟨?_, (Td.rows t ht).2⟩⟩
  · rw [List.getElem?_append_left (List.getElem?_eq_some_iff.mp Td.td).1]; exact Td.td
  · have := (Td.rows t ht).1
    rw [List.getElem?_append_left (List.getElem?_eq_some_iff.mp this).1]; exact this
theorem TdAt.fr {k : Nat} (Td : TdAt h n T) (fr : Fr k h h') (h1 : n + 2 < k ∨ k + 1 < n ∨ k = n) (h2 : ∀ t ∈ T, t.ad ≠ k ∧ t.ad ≠ k + 1) : TdAt h' n T := by
  refine ⟨?_, fun t ht => ⟨?_, (Td.rows t ht).2⟩⟩
  · rw [fr.get _ (by omega) (by omega)]; exact Td.td
  · have := h2 t ht
    rw [fr.get _ this.1 this.2]; exact (Td.rows t ht).1
theorem HE.f3 (H : HE h n own acts E) : getF 0 3 (.ref n) h = .ok (.ref (n + 2)) h := by obtain ⟨D, e, q⟩ := H; simp [getF, q.ins, insH]
theorem eq_kn {a b : Val} {ks js : List Mk} (ha : tupL a = some (ks.map eM)) (hb : tupL b = some (js.map eM)) : vEq a b h = .ok (.bl (decide (ks = js))) h := by
  have e1 : datF a = some (.tuple (ks.map Datum.toD)) := by rw [datF_tupL ha, show ks.map eM = ks.map Enc.enc from rfl, datFs_map]; rfl
  have e2 : datF b = some (.tuple (js.map Datum.toD)) := by rw [datF_tupL hb, show js.map eM = js.map Enc.enc from rfl, datFs_map]; rfl
  have e3 : PyData.eqv (.tuple (ks.map Datum.toD)) (.tuple (js.map Datum.toD)) = decide (ks = js) := (Datum.eqv (Tup.mk ks) (Tup.mk js)).trans (by by_cases h : ks = js <;> simp [h])
  have s1 : SeqAt.shaped (.tuple (ks.map Datum.toD)) = true := sh_tup (fun x _ => ⟨trivial, trivial⟩) (by decide)
  have s2 : SeqAt.shaped (.tuple (js.map Datum.toD)) = true := sh_tup (fun x _ => ⟨trivial, trivial⟩) (by decide)
  unfold vEq
  rw [dat_eq e1, dat_eq e2]
  simp only [s1, s2, Bool.and_self, if_true, e3]
theorem rows_kvM {rows : List (Mk × KB)} : pairsBy tkey (rows.map fun r => .tup [eM r.1, eKB r.2]) = some (kvM eKB rows) := by
  induction rows with
  | nil => rfl
  | cons w K ih => simp only [List.map_cons, pairsBy, tkey_eM, ih, kvM]
theorem merge_KB {d : List (Mk × KB)} (nd : (d.map (·.1)).Nodup) : mergeV [] (kvM eKB d) = kvM eKB d := by
  rw [merge_new (by
    have : (kvM eKB d).map (·.1) = (d.map (·.1)).map mKey := by simp [kvM, Function.comp_def]
    rw [this]
    exact List.pairwise_map.mpr (nd.imp fun h e => h (mKey_inj e))) (by simp)]
  rfl
/-- but for the place k all stays -/
structure Fr1 (k : Nat) (h h' : HM) : Prop where
  len : h.length ≤ h'.length
  get : ∀ i, i ≠ k → i < h.length → h'[i]? = h[i]?
theorem HE.fr1 {k m : Nat} (H : HE h m own acts E) (fr : Fr1 k h h') (h1 : k ≠ m) (h2 : k ≠ m + 1) : HE h' m own acts E := by
  obtain ⟨D, e, q⟩ := H
  have lt := q.lt
  exact ⟨D, e, ⟨by rw [fr.get _ (by omega) (by omega)]; exact q.ins, by rw [fr.get _ (by omega) (by omega)]; exact q.sh⟩⟩
theorem TdAt.fr1 {k : Nat} (Td : TdAt h n T) (fr : Fr1 k h h') (h1 : k ≠ n + 2) (h2 : ∀ t ∈ T, t.ad ≠ k) : TdAt h' n T := by
  refine ⟨?_, fun t ht => ⟨?_, (Td.rows t ht).2⟩⟩
  · rw [fr.get _ (by omega) (List.getElem?_eq_some_iff.mp Td.td).1]; exact Td.td
  · have := (Td.rows t ht).1
    rw [fr.get _ (h2 t ht) (List.getElem?_eq_some_iff.mp this).1]; exact this
theorem he_told (H : HE h n own acts E) (Td : TdAt h n T) {num : Int} {v : Val} {rows : List (Mk × KB)} (hv : tupL v = some (rows.map fun r => .tup [eM r.1, eKB r.2])) (nd : (rows.map (·.1)).Nodup) (lr : rows.length ≤ 1000) (lT : T.length ≤ 1000) :
    ∃ h', m_House_told_by [.ref n, .int num, v] h = .ok .non h' ∧ HE h' n own acts E ∧ TdAt h' n (putTl T ⟨num, h.length, rows⟩) ∧ Fr1 (n + 2) h h' := by
  have l2 := (List.getElem?_eq_some_iff.mp Td.td).1
  have Hg : HE (h ++ [.dT (kvM eKB rows)]) n own acts E := H.app
  have Tg : TdAt (h ++ [.dT (kvM eKB rows)]) n T := Td.app
  have lt := H.lt
  obtain ⟨h', hh'⟩ : ∃ h', h' = (h ++ [Ob.dT (kvM eKB rows)]).set (n + 2) (.dK (tdV (putTl T ⟨num, h.length, rows⟩))) := ⟨_, rfl⟩
  have sI : setI (.ref (n + 2)) (.int num) (.ref h.length) (h ++ [.dT (kvM eKB rows)]) = some h' := by
    have := put_tdV (T := T) (t := ⟨num, h.length, rows⟩)
    have z : (tdV T).length < sizeLine := by rw [sizeLine_eq]; simp [tdV]; omega
    simp [setI, Tg.td, keyOf, this, hh', z]
  have bd : ∀ h : HM, bDictT [.lst (rows.map fun r => .tup [eM r.1, eKB r.2])] h = .ok (.ref (List.length h)) (h ++ [.dT (kvM eKB rows)]) := fun h => by
    simp only [bDictT, seqL, Option.bind_some, rows_kvM, merge_KB nd]
  have lc1 : lcL (srcItems (rows.map fun r => .tup [eM r.1, eKB r.2])) (gTp 2 (gsCons (gNm 3) (gsCons (gNm 4) (gsNil)))) tYesM (eDisp mkTup (aCons (eVar 3) (aCons (eVar 4) (aNil)))) [some (.ref n), some (.int num), some v, none, none] (srcItems (rows.map fun r => .tup [eM r.1, eKB r.2])).len 0 h [] = .ok (rows.map fun r => .tup [eM r.1, eKB r.2]) h :=
    lc_mapM (fun r : Mk × KB => .tup [eM r.1, eKB r.2]) (fun r hr => ⟨[some (.ref n), some (.int num), some v, some (eM r.1), some (eKB r.2)], rfl, by simp⟩) (by rw [sizeLine_eq]; omega)
  refine ⟨h', ?_, ?_, ⟨?_, fun t ht => ?_⟩, ?_, ?_⟩
  · unfold m_House_told_by mF
    simp only [List.map_cons, List.map_nil, List.cons_append, List.nil_append, List.length_cons, List.length_nil, List.replicate, Nat.reduceAdd, Nat.reduceSub]
    simp only [ev_sSub, ev_eBi, ev_aCons, ev_aNil, ev_eLc, ev_iVal, ev_VarS, ev_Var0, Res.bind_ok, src_tup hv, wipeL, List.set, lc1, ev_frozen, bd, Res.thn_ok, ev_eFld, Hg.f3, sI]
  · rw [hh']; exact Hg.set (by omega) (by omega)
  · rw [hh', List.getElem?_set_self (by simp; omega)]
  · rcases mem_putTl ht with rfl | ht
    · refine ⟨?_, by show n + 2 < h.length; omega⟩
      show h'[h.length]? = _
      rw [hh', List.getElem?_set_ne (by omega)]; simp
    · obtain ⟨a, b⟩ := Td.rows t ht
      refine ⟨?_, b⟩
      rw [hh', List.getElem?_set_ne (by omega)]
      exact (Tg.rows t ht).1
  · rw [hh']; simp
  · intro i hi hl
    rw [hh', List.getElem?_set_ne (by omega), List.getElem?_append_left hl]
def dueL (E : List (Mk × Fl)) (T : List Tl) (nums : List Int) : List Mk := ((srt (E.map (·.1))).filter fun w => deadE E w).filter fun w => nums.all fun j => decide (toldK T j w = knownE E w)
theorem told_get (H : HE h n own acts E) (Td : TdAt h n T) {b : Bool} {nums : List Int} {X : Val} {k : Nat} {v4 : Option Val} {kn : Val} (hk : tupL kn = some (F.known.map eM)) (hl : nums.length ≤ 1000) :
    ∃ g, lcL (srcItems (nums.map .int)) (gNm 5) tYesM (e2 vEq (eGet2 (eGet2 (eFld 0 3 (eVar 0)) (eVar 5) (eDictT)) (eVar 3) (eDisp mkTup (aNil))) (eVar 4)) [some (.ref n), some X, some (.ref k), some (eM w), some kn, none] (srcItems (nums.map .int)).len 0 h [] = .ok (nums.map fun j => .bl (decide (toldK T j w = F.known))) (h ++ g) := by
  obtain ⟨ys, h', e, ⟨g, rfl⟩, rfl⟩ := lc_inv (xs := nums.map Val.int) (g := gNm 5) (te := e2 vEq (eGet2 (eGet2 (eFld 0 3 (eVar 0)) (eVar 5) (eDictT)) (eVar 3) (eDisp mkTup (aNil))) (eVar 4)) (l := [some (.ref n), some X, some (.ref k), some (eM w), some kn, none]) (h := h)
    (fun i acc h' => (∃ g, h' = h ++ g) ∧ acc = (nums.take i).map fun j => .bl (decide (toldK T j w = F.known))) ⟨⟨[], by simp⟩, by simp⟩ (by
    rintro i x acc h' hx ⟨⟨g, rfl⟩, rfl⟩
    obtain ⟨j, hj, rfl⟩ : ∃ j, nums[i]? = some j ∧ x = .int j := by
      rw [List.getElem?_map, Option.map_eq_some_iff] at hx
      obtain ⟨j, h1, h2⟩ := hx
      exact ⟨j, h1, h2.symm⟩
    have tk : nums.take (i + 1) = nums.take i ++ [j] := by rw [List.take_add_one, hj]; rfl
    have Hg : HE (h ++ g) n own acts E := H.app
    have Tg : TdAt (h ++ g) n T := Td.app
    have Tg2 : TdAt (h ++ g ++ [Ob.dT []]) n T := Tg.app
    have d1 : isDict (n + 2) (h ++ g) = true := by unfold isDict; rw [Tg.td]
    have g1 : dGet (n + 2) (.int j) (h ++ g ++ [Ob.dT []]) = some ((findT T j).map fun t => .ref t.ad) := by
      unfold dGet
      rw [Tg2.td]
      simp only [keyOf, Option.map_some, get_tdV]
    refine ⟨[some (.ref n), some X, some (.ref k), some (eM w), some kn, some (.int j)], .bl (decide (toldK T j w = F.known)), h ++ g ++ [Ob.dT []], rfl, ?_, ⟨g ++ [Ob.dT []], by simp⟩, by rw [tk, List.map_append]; rfl⟩
    have m0 : ∀ h, mkTup [] h = .ok (.tup []) h := fun h => ev_mkTup (by simp)
    have fin : ∀ ad (rows : List (Mk × KB)), (h ++ g ++ [Ob.dT []])[ad]? = some (Ob.dT (kvM eKB rows)) → (match getM rows w with | some q => q.1 | none => []) = toldK T j w →
        ((if isDict ad (h ++ g ++ [Ob.dT []]) = true then (match dGet ad (eM w) (h ++ g ++ [Ob.dT []]) with | some (some v) => Res.ok v (h ++ g ++ [Ob.dT []]) | some none => .ok (.tup []) (h ++ g ++ [Ob.dT []]) | none => .bad) else .bad).bind fun x h1 => vEq x kn h1) = .ok (.bl (decide (toldK T j w = F.known))) (h ++ g ++ [Ob.dT []]) := fun ad rows hr hq => by
      have di : isDict ad (h ++ g ++ [Ob.dT []]) = true := by unfold isDict; rw [hr]
      rw [if_pos di]
      have dg := dGet_M (w := w) hr
      simp only [dg]
      cases hq2 : getM rows w with
      | none =>
        rw [hq2] at hq
        simp only [Option.map_none, Res.bind_ok]
        rw [eq_kn (ks := []) rfl hk, ← hq]
      | some q =>
        rw [hq2] at hq
        simp only [Option.map_some, Res.bind_ok]
        rw [show eKB q = kB q.2 q.1 from rfl, eq_kn (ks := q.1) (tupL_kB _ _) hk, ← hq]
    simp only [ev_e2, ev_eGet2, ev_eFld, ev_VarS, ev_Var0, Res.bind_ok, Hg.f3, d1, if_true, ev_eDictT, g1, ev_eDisp, ev_aNil, m0]
    cases ft : findT T j with
    | none => exact fin (h ++ g).length [] (by simp [kvM]) (by simp only [toldK, toldR, ft])
    | some t =>
      have tm : t ∈ T := List.mem_of_find?_eq_some ft
      exact fin t.ad t.rows (Tg2.rows t tm).1 (by simp only [toldK, toldR, ft])) (by rw [sizeLine_eq]; simp; omega)
  refine ⟨g, ?_⟩
  rw [e, List.length_map, List.take_length]
theorem he_canForget (H : HE h n own acts E) (Td : TdAt h n T) (lE : E.length ≤ 1000) {nums : List Int} (hn : nums.length ≤ 1000) :
    ∃ g, m_House_can_forget [.ref n, .tup (nums.map .int)] h = .ok (.tup ((dueL E T nums).map eM)) (h ++ g) := by
  have Hl : HE (h ++ [.lst []]) n own acts E := H.app
  have hg := he_gone Hl lE
  obtain ⟨GL, hGL⟩ : ∃ L, L = (srt (E.map (·.1))).filter fun w => deadE E w := ⟨_, rfl⟩
  have lG : GL.length ≤ 1000 := by
    rw [hGL]
    refine Nat.le_trans (List.length_filter_le _ _) ?_
    rw [srt_len]; simpa using lE
  have pin : ∀ w ∈ GL, ∃ F, getM E w = some F := fun w hw => by
    rw [hGL] at hw
    have := srt_mem.mp (List.mem_filter.mp hw).1
    have := mem_keysM.mp this
    rw [hasM_get, Option.isSome_iff_exists] at this
    exact this
  rw [← hGL] at hg
  obtain ⟨l', h', e, g, v3, v4, rfl, rfl⟩ := for_inv (xs := GL.map eM) (g := gNm 3) (b := m_House_can_forget_f0) (l := [some (.ref n), some (.tup (nums.map .int)), some (.ref h.length), none, none, none]) (h := h ++ [.lst []])
    (fun r l' h' => ∃ g v3 v4, h' = h ++ (Ob.lst (((GL.take r).filter fun w => nums.all fun j => decide (toldK T j w = knownE E w)).map eM) :: g) ∧ l' = [some (.ref n), some (.tup (nums.map .int)), some (.ref h.length), v3, v4, none])
    ⟨[], none, none, by simp, rfl⟩ (by
    rintro r x l' h' hx ⟨g, v3, v4, rfl, rfl⟩
    obtain ⟨w, hw, rfl⟩ : ∃ w, GL[r]? = some w ∧ x = eM w := by
      rw [List.getElem?_map, Option.map_eq_some_iff] at hx
      obtain ⟨j, h1, h2⟩ := hx
      exact ⟨j, h1, h2.symm⟩
    have tk : GL.take (r + 1) = GL.take r ++ [w] := by rw [List.take_add_one, hw]; rfl
    obtain ⟨F, hF⟩ := pin w (List.mem_of_getElem? hw)
    have hkn : knownE E w = F.known := by unfold knownE; rw [hF]
    obtain ⟨A, hA⟩ : ∃ A, A = (GL.take r).filter fun w => nums.all fun j => decide (toldK T j w = knownE E w) := ⟨_, rfl⟩
    have lA : A.length ≤ 1000 := by
      rw [hA]
      refine Nat.le_trans (List.length_filter_le _ _) ?_
      rw [List.length_take]; omega
    rw [tk, List.filter_append, ← hA]
    have Hg : HE (h ++ (Ob.lst (A.map eM) :: g)) n own acts E := H.app
    have Tg : TdAt (h ++ (Ob.lst (A.map eM) :: g)) n T := Td.app
    obtain ⟨b, hb⟩ : ∃ b, vIx (.ref (n + 1)) (eM w) (h ++ (Ob.lst (A.map eM) :: g)) = .ok (eB (F, b)) (h ++ (Ob.lst (A.map eM) :: g)) := by
      obtain ⟨D, e, q⟩ := Hg
      have hF2 := hF
      rw [← e] at hF2
      obtain ⟨b, hb⟩ := get_fg hF2
      exact ⟨b, vIx_M q.sh hb⟩
    have x2 : ∀ h, vIx (eB (F, b)) (.int 2) h = .ok (kB b F.known) h := fun h => rfl
    obtain ⟨g2, lc⟩ := told_get (w := w) (F := F) (b := b) (X := .tup (nums.map .int)) (k := h.length) (v4 := none) Hg Tg (tupL_kB b F.known) hn
    have e1 : nums.all (fun j => decide (toldK T j w = F.known)) = nums.all fun j => decide (toldK T j w = knownE E w) := by rw [hkn]
    have ap : mAppend (.ref h.length) [eM w] (h ++ (Ob.lst (A.map eM) :: g) ++ g2) = .ok .non (h ++ (Ob.lst ((A ++ [w]).map eM) :: (g ++ g2))) := by
      have z : (A.map eM).length < sizeLine := by rw [sizeLine_eq]; simp; omega
      have q : (h ++ (Ob.lst (A.map eM) :: g) ++ g2)[h.length]? = some (.lst (A.map eM)) := by simp
      simp only [mAppend, q, if_pos z]
      simp
    have kd : isKd .list (.ref h.length) (h ++ (Ob.lst (A.map eM) :: g) ++ g2) = true := by
      have q : (h ++ (Ob.lst (A.map eM) :: g) ++ g2)[h.length]? = some (.lst (A.map eM)) := by simp
      simp [isKd, seqL, q]
    by_cases c : (nums.all fun j => decide (toldK T j w = knownE E w)) = true
    · have ef : List.filter (fun w => nums.all fun j => decide (toldK T j w = knownE E w)) [w] = [w] := by simp only [List.filter, c]
      rw [ef]
      refine ⟨_, [some (.ref n), some (.tup (nums.map .int)), some (.ref h.length), some (eM w), some (kB b F.known), none], _, rfl, ?_, g ++ g2, some (eM w), some (kB b F.known), rfl, rfl⟩
      unfold m_House_can_forget_f0
      simp only [ev_sSeq, ev_sAsg, ev_e2, ev_eFld, ev_VarS, ev_Var0, Res.bind_ok, Hg.f2, hb, ev_C, x2, Res.thn_ok, ev_gNmS, ev_gNm0, Option.map_some, ev_sIf, ev_tTru, ev_eBi, ev_aCons, ev_aNil, ev_eLc, ev_iVal, srcOf, wipeL, List.set, lc, ev_frozen, all_ok, e1, c, ev_truB, if_true, ev_sDrop, ev_eBm, kd, ap]
    · have c' : (nums.all fun j => decide (toldK T j w = knownE E w)) = false := Bool.eq_false_iff.mpr c
      have ef : List.filter (fun w => nums.all fun j => decide (toldK T j w = knownE E w)) [w] = [] := by simp only [List.filter, c']
      rw [ef, List.append_nil]
      refine ⟨_, [some (.ref n), some (.tup (nums.map .int)), some (.ref h.length), some (eM w), some (kB b F.known), none], h ++ (Ob.lst (A.map eM) :: (g ++ g2)), rfl, ?_, g ++ g2, some (eM w), some (kB b F.known), rfl, rfl⟩
      unfold m_House_can_forget_f0
      simp only [ev_sSeq, ev_sAsg, ev_e2, ev_eFld, ev_VarS, ev_Var0, Res.bind_ok, Hg.f2, hb, ev_C, x2, Res.thn_ok, ev_gNmS, ev_gNm0, Option.map_some, ev_sIf, ev_tTru, ev_eBi, ev_aCons, ev_aNil, ev_eLc, ev_iVal, srcOf, wipeL, List.set, lc, ev_frozen, all_ok, e1, c', ev_truB, Bool.false_eq_true, if_false, ev_sNil]
      simp)
  refine ⟨Ob.lst ((dueL E T nums).map eM) :: g, ?_⟩
  have due : (GL.take (GL.map eM).length).filter (fun w => nums.all fun j => decide (toldK T j w = knownE E w)) = dueL E T nums := by
    rw [List.length_map, List.take_length, hGL]; rfl
  rw [due] at e
  have fr : ∀ h, mkRef [] h = .ok (.ref h.length) (h ++ [.lst []]) := fun h => ev_mkRef (by simp)
  have bt : bTuple [.ref h.length] (h ++ (Ob.lst ((dueL E T nums).map eM) :: g)) = .ok (.tup ((dueL E T nums).map eM)) (h ++ (Ob.lst ((dueL E T nums).map eM) :: g)) := by
    simp [bTuple, seqL]
  unfold m_House_can_forget mF
  simp only [List.map_cons, List.map_nil, List.cons_append, List.nil_append, List.length_cons, List.length_nil, List.replicate, Nat.reduceAdd, Nat.reduceSub]
  simp only [ev_sSeq, ev_sAsg, ev_eDisp, ev_aNil, fr, Res.bind_ok, Res.thn_ok, ev_gNmS, ev_gNm0, Option.map_some, ev_sFor, ev_iVal, ev_eMeth, ev_VarS, ev_Var0, Hl.isI, if_true, hg, srcOf, e, ev_sRet, ev_eBi, ev_aCons, bt]
def drE (E : List (Mk × Fl)) (w : Mk) : List (Mk × Fl) := E.filter fun p => !decide (p.1 = w)
theorem drop_kvM {d : List (Mk × (Fl × Bool))} : dropV (kvM eB d) (mKey w) = kvM eB (d.filter fun p => !decide (p.1 = w)) := by
  unfold dropV kvM
  rw [List.filter_map]
  congr 1
  apply List.filter_congr
  intro p _
  simp only [Function.comp]
  by_cases e : p.1 = w
  · simp [e]
  · have : ¬ mKey p.1 = mKey w := fun z => e (mKey_inj z)
    simp [e, this]
theorem HE.dropped (H : HE h n own acts E) (hw : w ∈ E.map (·.1)) : ∃ v h', h' = h.set (n + 1) (.dT (dropV (match h[n + 1]? with | some (.dT k) => k | _ => []) (mKey w))) ∧
    (∀ l, eVar 0 l h = .ok (.ref n) h → eVar 3 l h = .ok (eM w) h → eDPop (eFld 0 2 (eVar 0)) (eVar 3) l h = .ok v h') ∧ HE h' n own acts (drE E w) ∧ Fr1 (n + 1) h h' := by
  obtain ⟨D, e, q⟩ := H
  have lt := q.lt
  rw [← e, fg_keys] at hw
  have hw2 := mem_keysM.mp hw
  rw [hasM_get, Option.isSome_iff_exists] at hw2
  obtain ⟨p, hp⟩ := hw2
  have hg : getK (kvM eB D) (mKey w) = some (eB p) := by rw [getK_kvM, hp]; rfl
  have di : isDict (n + 1) h = true := by unfold isDict; rw [q.sh]
  refine ⟨eB p, _, rfl, fun l h0 h3 => ?_, ⟨D.filter fun p => !decide (p.1 = w), ?_, ?_, ?_⟩, ?_, fun i hi hl => ?_⟩
  · simp only [ev_eDPop, ev_eFld, h0, Res.bind_ok, q.f2, di, if_true, h3, q.sh, tkey_eM, hg]
  · rw [← e]; unfold fg drE; rw [List.filter_map]; rfl
  · rw [List.getElem?_set_ne (by omega)]; exact q.ins
  · rw [List.getElem?_set_self (by omega), q.sh]
    simp only [drop_kvM]
  · simp
  · rw [List.getElem?_set_ne (by omega)]
theorem dueL_sub {nums : List Int} : ∀ w ∈ dueL E T nums, w ∈ E.map (·.1) := fun w hw => srt_mem.mp (List.mem_filter.mp (List.mem_filter.mp hw).1).1
theorem dueL_nd {nums : List Int} (nd : (E.map (·.1)).Nodup) : (dueL E T nums).Nodup := ((srt_nd nd).filter _).filter _
theorem Fr1.trans {k : Nat} {h2 : HM} (a : Fr1 k h h') (b : Fr1 k h' h2) : Fr1 k h h2 := ⟨Nat.le_trans a.len b.len, fun i hi hl => (b.get i hi (Nat.lt_of_lt_of_le hl a.len)).trans (a.get i hi hl)⟩
theorem Fr1.app {k : Nat} {g : HM} : Fr1 k h (h ++ g) := ⟨by simp, fun i _ hl => List.getElem?_append_left hl⟩
theorem Fr1.refl {k : Nat} : Fr1 k h h := ⟨Nat.le_refl _, fun _ _ _ => rfl⟩
theorem he_forget (H : HE h n own acts E) (Td : TdAt h n T) (lE : E.length ≤ 1000) (nd : (E.map (·.1)).Nodup) {nums : List Int} (hn : nums.length ≤ 1000) :
    ∃ h', m_House_forget [.ref n, .tup (nums.map .int)] h = .ok (.int (dueL E T nums).length) h' ∧ HE h' n own acts (E.filter fun p => !decide (p.1 ∈ dueL E T nums)) ∧ TdAt h' n T ∧ Fr1 (n + 1) h h' := by
  obtain ⟨g, e1⟩ := he_canForget H Td lE hn
  obtain ⟨L, hL⟩ : ∃ L, L = dueL E T nums := ⟨_, rfl⟩
  have Lnd : L.Nodup := by rw [hL]; exact dueL_nd nd
  have Lsub : ∀ w ∈ L, w ∈ E.map (·.1) := fun w hw => by rw [hL] at hw; exact dueL_sub w hw
  have lL : L.length ≤ 1000 := by
    rw [hL]
    unfold dueL
    refine Nat.le_trans (List.length_filter_le _ _) (Nat.le_trans (List.length_filter_le _ _) ?_)
    rw [srt_len]; simpa using lE
  rw [← hL] at e1 ⊢
  have Hg : HE (h ++ g) n own acts E := H.app
  have Tg : TdAt (h ++ g) n T := Td.app
  have rws : ∀ t ∈ T, t.ad ≠ n + 1 := fun t ht => by have := (Td.rows t ht).2; omega
  obtain ⟨l', h', e, H', fr, v3, rfl⟩ := for_inv (xs := L.map eM) (g := gNm 3) (b := m_House_forget_f0) (l := [some (.ref n), some (.tup (nums.map .int)), some (.tup (L.map eM)), none]) (h := h ++ g)
    (fun r l' h' => HE h' n own acts (E.filter fun p => !decide (p.1 ∈ L.take r)) ∧ Fr1 (n + 1) (h ++ g) h' ∧ ∃ v3, l' = [some (.ref n), some (.tup (nums.map .int)), some (.tup (L.map eM)), v3])
    ⟨by rw [List.filter_eq_self.mpr (fun p _ => by simp)]; exact Hg, Fr1.refl, none, rfl⟩ (by
    rintro r x l' h' hx ⟨H', fr, v3, rfl⟩
    obtain ⟨w, hw, rfl⟩ : ∃ w, L[r]? = some w ∧ x = eM w := by
      rw [List.getElem?_map, Option.map_eq_some_iff] at hx
      obtain ⟨j, h1, h2⟩ := hx
      exact ⟨j, h1, h2.symm⟩
    have tk : L.take (r + 1) = L.take r ++ [w] := by rw [List.take_add_one, hw]; rfl
    have wn : w ∉ L.take r := fun z => by
      have nd2 : (L.take r ++ [w]).Nodup := by rw [← tk]; exact Lnd.sublist (List.take_sublist _ _)
      exact (List.nodup_append.mp nd2).2.2 w z w (by simp) rfl
    have wi : w ∈ (E.filter fun p => !decide (p.1 ∈ L.take r)).map (·.1) := by
      obtain ⟨p, hp, rfl⟩ := List.mem_map.mp (Lsub w (List.mem_of_getElem? hw))
      exact List.mem_map.mpr ⟨p, List.mem_filter.mpr ⟨hp, by simpa using wn⟩, rfl⟩
    obtain ⟨v, h2, _, e2, H2, fr2⟩ := H'.dropped wi
    refine ⟨[some (.ref n), some (.tup (nums.map .int)), some (.tup (L.map eM)), some (eM w)], _, h2, rfl, ?_, ?_, fr.trans fr2, some (eM w), rfl⟩
    · unfold m_House_forget_f0
      simp only [ev_sDrop, e2 [some (.ref n), some (.tup (nums.map .int)), some (.tup (L.map eM)), some (eM w)] rfl rfl, Res.thn_ok]
    · have : drE (E.filter fun p => !decide (p.1 ∈ L.take r)) w = E.filter fun p => !decide (p.1 ∈ L.take (r + 1)) := by
        unfold drE
        rw [List.filter_filter]
        apply List.filter_congr
        intro p _
        rw [tk]
        by_cases c : p.1 = w <;> simp [c]
      rw [← this]; exact H2)
  rw [List.length_map, List.take_length] at H'
  refine ⟨h', ?_, H', Tg.fr1 fr (by omega) rws, Fr1.app.trans fr⟩
  have sr : ∀ h, srcOf (.tup (L.map eM)) h = .ok (srcItems (L.map eM)) h := fun h => rfl
  unfold m_House_forget mF
  simp only [List.map_cons, List.map_nil, List.cons_append, List.nil_append, List.length_cons, List.length_nil, List.replicate, Nat.reduceAdd, Nat.reduceSub]
  simp only [ev_sSeq, ev_sAsg, ev_eMeth, ev_aCons, ev_aNil, ev_VarS, ev_Var0, Res.bind_ok, H.isI, if_true, e1, Res.thn_ok, ev_gNmS, ev_gNm0, Option.map_some, ev_sFor, ev_iVal, sr, e, ev_sRet, ev_eBi, ev_lenT, List.length_map]
theorem lead_skip (H : HE h n own acts E) (ht : F.texts = []) (hg : getM E F.id = none) {k : Val} : m_House_lead_on [.ref n, eFk F k] h = .ok (.bl false) h := by
  obtain ⟨D, e, q⟩ := H
  subst e
  have ig : ∀ h, m_is_gone [eFk F k] h = .ok (.bl true) h := fun h => by rw [at_isGone, ht]; rfl
  have i0 : ∀ h, vIx (eFk F k) (.int 0) h = .ok (eM F.id) h := fun h => rfl
  have ni : vNotIn (eM F.id) (.ref (n + 1)) h = .ok (.bl true) h := by
    rw [vNotIn_M q.sh, ← fg_has, hasM_get, hg]; rfl
  unfold m_House_lead_on mF
  simp [ig, i0, q.f2, ni]
theorem lead_take (H : HE h n own acts E) {k v : Val} (hc : F.texts ≠ [] ∨ getM E F.id ≠ none) (et : m_House_take [.ref n, eFk F k] h = .ok v h') : m_House_lead_on [.ref n, eFk F k] h = .ok v h' := by
  have isI := H.isI
  obtain ⟨D, e, q⟩ := H
  subst e
  have ig : ∀ h, m_is_gone [eFk F k] h = .ok (.bl (decide (F.texts = []))) h := fun h => at_isGone
  have i0 : ∀ h, vIx (eFk F k) (.int 0) h = .ok (eM F.id) h := fun h => rfl
  have ni : vNotIn (eM F.id) (.ref (n + 1)) h = .ok (.bl (!hasM (fg D) F.id)) h := by
    rw [vNotIn_M q.sh, ← fg_has]
  unfold m_House_lead_on mF
  by_cases c : F.texts = []
  · have hg := hc.resolve_left (fun z => z c)
    have hh : hasM (fg D) F.id = true := by
      rw [hasM_get]
      cases e2 : getM (fg D) F.id with
      | none => exact absurd e2 hg
      | some _ => rfl
    rw [hh] at ni
    have ig : ∀ h, m_is_gone [eFk F k] h = .ok (.bl true) h := fun h => by rw [ig, c]; rfl
    simp [ig, i0, q.f2, ni, isI, et]
  · have ig : ∀ h, m_is_gone [eFk F k] h = .ok (.bl false) h := fun h => by rw [ig]; simp [c]
    simp [ig, isI, et]
end
end
end MM
namespace MM
open PySem L2 PySem.W
def eKQ (k : Int × (Int × Int)) : Val := .tup [.int k.1, .tup [.int k.2.1, .int k.2.2]]
theorem keyQ_inj {j k : Int × (Int × Int)} (h : keyQ j = keyQ k) : j = k := by
  unfold keyQ at h
  simp only [NestedKey.tup.injEq, List.cons.injEq, NestedKey.num.injEq, and_true] at h
  exact Prod.ext h.1 (Prod.ext h.2.1 h.2.2)
theorem hashQ (k : Int × (Int × Int)) (w w' : World) : (keyQ k).hash w = (keyQ k).hash w' := by
  simp only [keyQ, NestedKey.hash, NestedKey.hashes]
theorem DQ.stay {a : Addr} {xs : List EntQ} {h1 h2 : Heap} (x : DQ a xs h1) (k : ∀ o, h1.get? a = some o → h2.get? a = some o) : DQ a xs h2 := by
  obtain ⟨h1, h2, h3, w, o, es, ep, h4, r⟩ := x
  exact ⟨h1, h2, h3, w, o, es, ep, k _ h4, r⟩
theorem DQ.ok {P : Program} {w : World} {H : Hp} {h : Heap} {a : Addr} {xs : List EntQ} (x : DQ a xs h) : ObjOk P w H h a (.ext (DQ a xs)) := by
  obtain ⟨h1, h2, h3, w, o, es, ep, h4, r⟩ := id x
  exact ⟨x, ⟨o, h4⟩, fun _ _ y k => y.stay k⟩
theorem dq_of {P : Program} {w : World} {H : Hp} {h : Heap} {a : Addr} {xs : List EntQ} (ok : HOk P w H h) (e : H a = some (.ext (DQ a xs))) : DQ a xs h := (show ObjOk P w H h a (.ext (DQ a xs)) from ok a _ e).1
theorem nestedQ {P : Program} {w : World} {H : Hp} {h : Heap} {r : Ad} {x : EntQ} (ok : HOk P w H h) (z : H x.2.2 = some (.tup [.int x.1.2.1, .int x.1.2.2]) ∧ H x.2.1 = some (.tup [.int x.1.1, .ref x.2.2])) : (nestedKind P w).is h (keyQ x.1) x.2.1 := by
  obtain ⟨z1, z2⟩ := z
  obtain ⟨_, i1, r1, o1, a1, b1, n1, c1⟩ := (show ObjOk P w H h x.2.2 (.tup _) from ok _ _ z1)
  obtain ⟨_, i2, r2, o2, a2, b2, n2, c2⟩ := (show ObjOk P w H h x.2.1 (.tup _) from ok _ _ z2)
  refine ⟨?_, by simp [keyQ, NestedKey.depth, NestedKey.depthAll]⟩
  cases r1 with
  | cons p1 r1 => cases r1 with
    | cons p2 r1 =>
      cases r1
      obtain ⟨t1, rfl⟩ := p1
      obtain ⟨t2, rfl⟩ := p2
      cases r2 with
      | cons p3 r2 => cases r2 with
        | cons p4 r2 =>
          cases r2
          obtain ⟨t4, rfl⟩ := p3
          obtain rfl := (show _ = Value.ref x.2.2 from p4)
          exact .tup a2 b2 c2 (.cons (.int _ _) (.cons (.tup a1 b1 c1 (.cons (.int _ _) (.cons (.int _ _) .nil))) .nil))
def toHQ (xs : List EntQ) : List (NestedKey × Addr × Value) := xs.map fun x => (keyQ x.1, x.2.1, .bool true)
theorem toHQ_at {xs : List EntQ} {k : Int × (Int × Int)} : (atKey (toHQ xs) (keyQ k)).isSome = decide (k ∈ xs.map (·.1)) := by
  unfold atKey toHQ
  rw [Option.isSome_map, Bool.eq_iff_iff, List.find?_isSome, decide_eq_true_eq]
  simp only [List.mem_map, decide_eq_true_eq]
  constructor
  · rintro ⟨_, ⟨x, hx, rfl⟩, e⟩
    exact ⟨x, hx, keyQ_inj e⟩
  · rintro ⟨x, hx, rfl⟩
    exact ⟨_, ⟨x, hx, rfl⟩, rfl⟩
theorem DQ.dict {P : Program} {w : World} {H : Hp} {h : Heap} {a : Addr} {xs : List EntQ} (ok : HOk P w H h) (d : DQ a xs h) (hk : ∀ x ∈ xs, H x.2.2 = some (.tup [.int x.1.2.1, .int x.1.2.2]) ∧ H x.2.1 = some (.tup [.int x.1.1, .ref x.2.2])) : h.DictOfH (nestedKind P w) a (toHQ xs) := by
  obtain ⟨h1, h2, h3, w', o, es, ep, h4, h5, h6, h7⟩ := d
  refine ⟨o, es, ep, h4, h5, h6, ?_, fun y hy => ?_, ?_⟩
  · rw [h7, toHQ, List.map_map]
    apply List.map_congr_left
    intro x _
    show (⟨(keyQ x.1).hash w', .ref x.2.1, .bool true⟩ : DictEntry) = ⟨(keyQ x.1).hash w, .ref x.2.1, .bool true⟩
    rw [hashQ x.1 w' w]
  · unfold toHQ at hy
    obtain ⟨x, hx, rfl⟩ := List.mem_map.mp hy
    exact nestedQ (r := ⟨[], [], []⟩) ok (hk x hx)
  · have : (toHQ xs).map (·.1) = (xs.map (·.1)).map keyQ := by simp [toHQ, Function.comp_def]
    rw [this, List.Nodup, List.pairwise_map]
    exact h3.imp fun hne e => hne (keyQ_inj e)
section
variable {X : Cx} {G : Glob} {W : WX} {r r1 r2 : Ad} {H H1 H2 : Hp} {h h1 : HM} {l : Loc} {s : Shared} {a : Addr} {n : Nat} {pos : Pos} {o e : Expr} {mo : EM}
def eDictQ : EM := fun _ h => .ok (.ref h.length) (h ++ [.dQ []])
theorem me_dictQ : ME X G W (.Dict [] [] pos) eDictQ := ⟨fun pins s σ H Q I ⟨r, h, l, q, hl, p⟩ =>
  wpAny_Dict_empty ⟨.ref s.heap.objs.size, upd H s.heap.objs.size (.ext (DQ s.heap.objs.size [])), I.laid (a := s.heap.objs.size) (o := .ext (DQ s.heap.objs.size [])) (t' := s.toks) (fun _ _ q => Heap.get?_push_of_some _ q) (Nat.le_refl _)
    (DQ.ok ⟨beq_eq_false_iff_ne.mpr (Ne.symm (Nat.ne_of_lt I.big)), Nat.zero_le _, List.nodup_nil, X.w, _, #[], 0, Heap.get?_push_size _ rfl, ⟨rfl, rfl, rfl⟩, rfl, rfl⟩), rfl,
    post_alloc q (I.hok.fresh (Nat.le_refl _)) (.dQ (xs := []) upd_same rfl (fun x hx => (by cases hx))) p⟩⟩
def isKQ : Val → Option (Int × (Int × Int))
  | .tup [.int c, .tup [.int a, .int b]] => some (c, (a, b))
  | _ => none
def setQ (o i v : Val) (h : HM) : Option HM := match o, v with
  | .ref n, .bl true => (match h[n]? with
    | some (.dQ ks) => if ks.length < sizeLine then (isKQ i).map fun k => h.set n (.dQ (if k ∈ ks then ks else ks ++ [k])) else none
    | _ => none)
  | _, _ => none
def sSubQ (mo mi mv : EM) : SM := fun l h => (mv l h).thn l fun y h1 => (mo l h1).thn l fun o h2 => (mi l h2).thn l fun i h3 => match setQ o i y h3 with
  | some h4 => .nx l h4
  | none => .bad
theorem kQ_V {i : Val} {w : V} {k : Int × (Int × Int)} (z : VR G r H i w) (e : isKQ i = some k) : ∃ b q, w = .ref b ∧ KyQ r H (k, b, q) := by
  unfold isKQ at e
  split at e
  · rename_i c a b
    cases e
    cases z with
    | tup d o zz =>
      cases zz with
      | cons z1 zz => cases zz with
        | cons z2 zz =>
          cases zz
          cases z1
          cases z2 with
          | tup d1 o1 yy =>
            cases yy with
            | cons y1 yy => cases yy with
              | cons y2 yy =>
                cases yy
                cases y1
                cases y2
                exact ⟨_, _, rfl, d1, o1, d, o⟩
  · cases e
theorem ms_subQ {i v : Expr} {mi mv : EM} {pos pos' : Pos} (hu : X.A.units + 200 < cLine) (ho : ME X G W o mo) (hi : ME X G W i mi) (hv : ME X G W v mv) (hs : swapsWith v (some (.Subscript o i pos')) pos.line X.env = pure false := by rfl) :
    MS X G W (.Assign [.Subscript o i pos'] v pos) (sSubQ mo mi mv) := by
  refine ⟨fun pins s σ H D I ⟨r, h, l, q, hl, p⟩ => ?_⟩
  refine PySem.wpAny_Assign_Subscript (thn (hv.run pins s σ H _ I ⟨r, h, l, q, hl, Post.thn hl p⟩) fun u1 s1 ⟨y, H1, I1, ry, ⟨r1, h1, v1, e1, q1, z1, p1⟩⟩ => thn (ho.run pins s1 σ H1 _ I1 ⟨r1, h1, l, q1, hl.ext e1, Post.thn (hl.ext e1) p1⟩) fun u2 s2 ⟨x, H2, I2, rx, ⟨r2, h2, v2, e2, q2, z2, p2⟩⟩ =>
    thn (hi.run pins s2 σ H2 _ I2 ⟨r2, h2, l, q2, (hl.ext e1).ext e2, Post.thn ((hl.ext e1).ext e2) p2⟩) fun u3 s3 ⟨w, H3, I3, rw', ⟨r3, h3, v3, e3, q3, z3, p3⟩⟩ => ?_) hs
  have zy := (z1.ext e2).ext e3
  have zo := z2.ext e3
  have hl3 := ((hl.ext e1).ext e2).ext e3
  dsimp only at p3
  cases hset : setQ v2 v3 v1 h3 with
  | none => rw [hset] at p3; exact p3.elim
  | some h4 =>
    rw [hset] at p3
    dsimp only at p3
    cases zo with
    | @ref n a e0 =>
      cases zy with
      | bl bb =>
        cases bb with
        | false => cases hset
        | true =>
        unfold setQ at hset
        dsimp only at hset
        obtain rfl : u2 = Value.ref a := rx
        obtain rfl : u1 = Value.bool true := ry
        cases hn : h3[n]? with
        | none => rw [hn] at hset; cases hset
        | some ob =>
          rw [hn] at hset
          have hob := q3.ob n a ob e0 hn
          cases hob with
          | @dQ ks xs g1 g2 g3 =>
            have nf : ∀ o u, H3 a ≠ some (.frz o u) := fun o u z => by rw [g1] at z; cases z
            dsimp only at hset
            split at hset
            · rename_i hz
              simp only [Option.map_eq_some_iff] at hset
              obtain ⟨k, hk, rfl⟩ := hset
              obtain ⟨b, qa, rfl, ky⟩ := kQ_V z3 hk
              obtain rfl : u3 = Value.ref b := rw'
              have dn := dq_of I3.hok g1
              have dd := dn.dict I3.hok fun x hx => ⟨(g3 x hx).1, (g3 x hx).2.2.1⟩
              have hz2 : (toHQ xs).length ≤ sizeLine := by simpa [toHQ] using dn.2.1
              have hl2 : ks.length = xs.length := by rw [g2, List.length_map]
              refine wpAny_setItem_heap (knd := nestedKind X.prog X.w) (v := .bool true) (hsz := hz2) (by show X.A.units + 1 + 8 < cLine; omega) (nestedQ (r := r3) (x := (k, b, qa)) I3.hok ⟨ky.1, ky.2.2.1⟩) dd fun h' dd' hs' => ?_
              obtain ⟨ob', es, ep, hq, h2', h3', h4', _, h5'⟩ := dd'
              by_cases hin : k ∈ ks
              · rw [if_pos hin] at p3
                have e5 : storedH (toHQ xs) (keyQ k) b (.bool true) = toHQ xs := by
                  unfold storedH
                  rw [if_pos (by rw [toHQ_at, ← g2]; exact decide_eq_true hin)]
                  conv => rhs; rw [← List.map_id (toHQ xs)]
                  apply List.map_congr_left
                  intro z hz
                  unfold toHQ at hz
                  obtain ⟨x, hx, rfl⟩ := List.mem_map.mp hz
                  unfold putAt
                  split <;> rfl
                rw [e5] at h4' h5'
                have new : DQ a xs h' := ⟨dn.1, dn.2.1, dn.2.2.1, X.w, ob', es, ep, hq, h2', h3', by rw [h4', toHQ, List.map_map]; rfl⟩
                refine ⟨σ, upd H3 a (.ext (DQ a xs)), d_write I3 (by rw [g1]; exact True.intro) hs' ⟨ob', hq⟩ new.ok, ?_⟩
                exact p3 r3 _ σ (ext_write q3 e0 nf) (q3.write e0 nf (.dQ upd_same g2 fun x hx => (g3 x hx).ex (ext_write q3 e0 nf).keep)) (hl3.ext (ext_write q3 e0 nf))
              · rw [if_neg hin] at p3
                have e5 : storedH (toHQ xs) (keyQ k) b (.bool true) = toHQ (xs ++ [(k, b, qa)]) := by
                  unfold storedH
                  rw [if_neg (by rw [toHQ_at, ← g2]; simpa using hin)]
                  simp [toHQ]
                rw [e5] at h4' h5'
                have nd : ((xs ++ [(k, b, qa)]).map (·.1)).Nodup := by
                  rw [List.map_append, List.nodup_append]
                  refine ⟨dn.2.2.1, by simp, fun x hx y hy e => ?_⟩
                  simp at hy
                  subst hy e
                  rw [← g2] at hx
                  exact hin hx
                have new : DQ a (xs ++ [(k, b, qa)]) h' := ⟨dn.1, by simp; omega, nd, X.w, ob', es, ep, hq, h2', h3', by rw [h4', toHQ, List.map_map]; rfl⟩
                refine ⟨σ, upd H3 a (.ext (DQ a (xs ++ [(k, b, qa)]))), d_write I3 (by rw [g1]; exact True.intro) hs' ⟨ob', hq⟩ new.ok, ?_⟩
                refine p3 r3 _ σ (ext_write q3 e0 nf) (q3.write e0 nf (.dQ upd_same (by rw [List.map_append, g2]; rfl) fun x hx => ?_)) (hl3.ext (ext_write q3 e0 nf))
                rcases List.mem_append.mp hx with hx | hx
                · exact (g3 x hx).ex (ext_write q3 e0 nf).keep
                · simp at hx
                  subst hx
                  exact ky.ex (ext_write q3 e0 nf).keep
            · cases hset
          | _ => cases hset
      | _ => cases hset
    | _ => cases hset
end
/-- the keys of the locked dict at d, in their order -/
def ItQ (d : Addr) (o : Obj) (xs : List EntQ) : It :=
  ⟨fun i H => H d = some (.frz o (.ext (DQ d xs))) ∧ i < xs.length, fun i H x H' => H' = H ∧ ∃ e, xs[i]? = some e ∧ x = .ref e.2.1, fun i H => H d = some (.frz o (.ext (DQ d xs))) ∧ xs.length ≤ i⟩
theorem frzQ {X : Cx} {pins : List (Addr × Obj)} {σ : St} {H : Hp} {s : Shared} {d : Addr} {o : Obj} {xs : List EntQ} (I : Inv X pins σ H s) (h : H d = some (.frz o (.ext (DQ d xs)))) :
    (d == sysModules) = false ∧ s.heap.get? d = some o ∧ o.ExactDict ∧ ∃ (es : Array DictEntry) (ep : Nat), o.data = .dict es ep ∧ es.size = xs.length ∧
      ∀ (i : Nat) (e : EntQ), xs[i]? = some e → ∃ en : DictEntry, es[i]? = some en ∧ en.key = .ref e.2.1 := by
  obtain ⟨hd, dq, _⟩ := I.hok d _ h
  obtain ⟨h1, h2, h3, w, o', es, ep, ho, hx, hdt, he⟩ := dq
  rw [hd] at ho
  cases ho
  refine ⟨h1, hd, hx, es, ep, hdt, ?_, fun i e hi => ?_⟩
  · rw [← Array.length_toList, he, List.length_map]
  · refine ⟨⟨(keyQ e.1).hash w, .ref e.2.1, .bool true⟩, ?_, rfl⟩
    rw [← Array.getElem?_toList, he, List.getElem?_map, hi]; rfl
theorem turn_keysQ {P : Program} {w : World} {K : PySem.W.Frag} {tg : Expr} {d : Addr} {o : Obj} {es : Array DictEntry} {ep : Nat} {xs : List EntQ} (it : Addr) (hod : o.data = .dict es ep) : Turn P w K tg (ItQ d o xs) [it] it (fun i h => h.IsKeyIter it d i xs.length ep) where
  mem := by simp
  obj := fun i h st b hb => by
    have e : b = it := by simpa using hb
    subst e
    obtain ⟨oi, e, c, dd⟩ := st
    exact ⟨oi, e, fun v z => by rw [dd] at z; cases z⟩
  keep := fun i h h' st k => st.at fun oi e => k it (by simp) oi e
  item := by
    intro X hP hw hK hc i pins s σ H E I hf st hg
    subst hP hw hK
    obtain ⟨hd, hi⟩ := hg
    obtain ⟨f0, f1, f2, f3, f4, f5⟩ := hf it (by simp)
    obtain ⟨hs, hgd, hx, es', ep', hdt, hsz, ent⟩ := frzQ I hd
    obtain ⟨rfl, rfl⟩ := dict_ep hod hdt
    obtain ⟨e0, he0⟩ : ∃ p, xs[i]? = some p := ⟨xs[i], List.getElem?_eq_getElem hi⟩
    obtain ⟨en, hen, hkey⟩ := ent i e0 he0
    refine next_key_item st hgd hdt hsz hen fun h' st' sb => ?_
    have I1 : Inv X pins σ H { s with heap := h' } := I.turned (t' := s.toks) (fun b ob hb e => (sb.2 b hb).trans e) f0 f1 f3 f4 f5
    obtain ⟨oi, e, c, dd⟩ := id st'
    exact ⟨en.key, rfl, go_of (s := { s with heap := h' }) e c dd (by decide) ⟨.ref e0.2.1, H, I1, hkey, ⟨rfl, e0, he0, rfl⟩, st', fun b hb => (hf b hb).1⟩⟩
  done := by
    intro X hP hw hK hc i pins s σ H E I hf st hg
    subst hP hw hK
    obtain ⟨hd, hi⟩ := hg
    obtain ⟨f0, f1, f2, f3, f4, f5⟩ := hf it (by simp)
    obtain ⟨hs, hgd, hx, es', ep', hdt, hsz, ent⟩ := frzQ I hd
    obtain ⟨rfl, rfl⟩ := dict_ep hod hdt
    exact next_key_end (I.ok.hd hc) st hgd hdt hsz hi fun h' eb => ⟨rfl, I.turned (t' := s.toks) (fun b ob hb e => eb b ob hb e) f0 f1 f3 f4 f5⟩
  self := fun A i s Q E st h => wpAny_pyIter_keyiter st h
def iKeysQh (td : TE) : TI := fun σ H R => td σ H fun x H1 => ∃ d o xs, x = .ref d ∧ H1 d = some (.frz o (.ext (DQ d xs))) ∧ R (ItQ d o xs) H1
theorem pi_keysQ {X : Cx} {tg e : Expr} {td : TE} (he : PE X e td) : PI X tg e (iKeysQh td) := by
  refine ⟨fun pins s σ H R I h => ?_⟩
  refine thn (he.run pins s σ H _ I h) fun u s1 ⟨x, H1, I1, rx, d, o, xs, ex, hd, q⟩ => ?_
  subst ex
  obtain rfl : u = Value.ref d := rx
  obtain ⟨hs, hgd, hx, es, ep, hdt, hsz, ent⟩ := frzQ I1 hd
  refine iter_keys hs hgd hx hdt (pi_one (tk := s1.toks) I1 _ (turn_keysQ _ hdt) ⟨_, Heap.get?_push_size _ rfl, rfl, ?_⟩ q)
  rw [hsz] <;> rfl
def keysSrcQ (v : Val) (h : HM) : Res Src := match v with
  | .ref n => (match h[n]? with
    | some (.lQ ks) => .ok (srcItems (ks.map eKQ)) h
    | _ => .bad)
  | _ => .bad
def iKeysQ (m : EM) : IM := fun l h => (m l h).bind keysSrcQ
section
variable {X : Cx} {G : Glob} {W : WX} {tg e : Expr} {me : EM}
theorem mi_keysQ (he : ME X G W e me) : MI X G W tg e (iKeysQ me) := by
  refine ⟨fun pins s σ H R I ⟨r, h, l, q, hl, p⟩ => (pi_keysQ he).run pins s σ H R I ⟨r, h, l, q, hl, (Post.bind p).imp fun x H1 ⟨r1, h1, w1, e1, q1, z1, p1⟩ => ?_⟩⟩
  cases z1 with
  | @ref n a e0 =>
    dsimp only [keysSrcQ] at p1
    split at p1
    · rename_i ks hn
      have ml := q1.lo n a _ e0 hn rfl
      cases q1.ob n a _ e0 hn with
      | @lQ o _ xs g1 g2 g3 =>
        refine ⟨a, o, xs, rfl, g1, Post.here q1 (R := SrcR G) (fun r2 H2 h2 ex lk q2 => ?_) p1⟩
        have ea := (lk a ml).trans g1
        refine ⟨fun i x hi ex2 => ?_, fun _ => ⟨ea, by show xs.length ≤ (ks.map _).length; rw [List.length_map, g2, List.length_map]; omega⟩⟩
        have ex2 : (ks.map eKQ)[i]? = some x := ex2
        rw [g2, List.map_map, List.getElem?_map] at ex2
        obtain ⟨e1, he1, rfl⟩ := Option.map_eq_some_iff.mp ex2
        have hlt : i < xs.length := (List.getElem?_eq_some_iff.mp he1).1
        refine ⟨⟨ea, hlt⟩, fun v H3 ⟨e3, e2, he2, hv⟩ => ?_⟩
        subst e3 hv
        rw [he1] at he2
        cases he2
        refine ⟨Ext.refl, q2, ?_⟩
        have ky := (g3 e1 (List.mem_of_getElem? he1)).ex ex.keep
        exact .tup ky.2.2.1 ky.2.2.2 (.cons (.int _) (.cons (.tup ky.1 ky.2.1 (.cons (.int _) (.cons (.int _) .nil))) .nil))
    · exact p1.elim
  | _ => exact p1.elim
end
end MM
namespace MM
open PySem L2
section
variable {X : Cx} {G : Glob} {W : WX} {r r1 r2 : Ad} {H H1 H2 : Hp} {h h1 : HM} {l : Loc} {s : L2.St} {a : Addr}
def eDPopK (mo me : EM) : EM := fun l h => (mo l h).bind fun o h1 => match o with
  | .ref n => if isDict n h1 = true then (me l h1).bind fun y h2 => match h2[n]? with
    | some (.dK kvs) => (match keyOf y with
      | some k => (match getK kvs k with
        | some v => .ok v (h2.set n (.dK (dropV kvs k)))
        | none => .bad)
      | none => .bad)
    | _ => .bad else .bad
  | _ => .bad
variable {o e : Expr} {mo me : EM} {apos cpos : Pos}
theorem me_dpopK (ho : ME X G W o mo) (he : ME X G W e me) (m : M1 X o "pop" apos e cpos := by exact ⟨rfl, rfl, rfl, rfl⟩) : ME X G W (.Call (.Attribute o "pop" apos) [e] [] cpos) (eDPopK mo me) := by
  refine ⟨fun pins s σ H Q I ⟨r, h, l, q, hl, pp⟩ => (pe_dpop1 ho he m).run pins s σ H Q I ⟨r, h, l, q, hl, (Post.bind pp).imp fun x H1 ⟨r1, h1, w1, e1, q1, z1, p1⟩ => ?_⟩⟩
  cases z1 with
  | @ref n a e0 =>
    dsimp only at p1
    split at p1
    · rename_i hk
      have hd : IsD H1 a := isDict_ok q1 e0 hk
      refine ⟨a, rfl, hd, r1, h1, l, q1, hl.ext e1, (Post.bind p1).imp fun y H2 ⟨r2, h2, w2, e2, q2, z2, p2⟩ => ?_⟩
      have e0' := pre_get e2.pre e0
      dsimp only at p2
      split at p2
      · rename_i kvs hn
        have hob := q2.ob n a _ e0' hn
        cases hob with
        | @dK _ kv g1 g2 =>
        have nf : ∀ o u, H2 a ≠ some (.frz o u) := fun o u z => by rw [g1] at z; cases z
        split at p2
        · rename_i k hk2
          split at p2
          · rename_i v hv
            obtain ⟨u, hu', zu⟩ := (getK_ok g2 k).1 v hv
            have hy := key_V z2 hk2
            exact ⟨kv, k, u, g1, hy, hu', p2 r2 _ _ (ext_write q2 e0' nf) (q2.write e0' nf (.dK upd_same ((g2.drop k).ext (ext_write q2 e0' nf)))) (zu.ext (ext_write q2 e0' nf))⟩
          · exact p2.elim
        · exact p2.elim
      · exact p2.elim
    · exact p1.elim
  | _ => exact p1.elim
end
end MM
namespace MM
open PySem L2 PySem.W
noncomputable section
theorem at_start2 {ns : List Int} {m : Nat} {h : HM} (h1 : 1 ≤ m) (h6 : m ≤ 6) : ∃ h', m_law_start [.scr ns, .int (m : Nat)] h = .ok (stV (D0 h.length m) m (num0 ns)) h' ∧ WAt (D0 h.length m) (Wo0 m (num0 ns)) h' ∧ h'.length = h.length + 4 * m + 4 ∧ ∀ i, i < m → h'[h.length + 3 * i + 2]? = some (.dK []) := by
  have c0 : ∀ h, m_law_cell [.scr ns, .int 0] h = .ok (.int (cell ns 0)) h := fun h => at_cell' (by omega)
  have pm : ∀ h, s_law_perm [.int (cell ns 0), .int 6] h = .ok (.lst ((lperm (cell ns 0) 6).map .int)) h := fun h => perm_ok (by omega)
  have sl : ∀ h, vSl (.lst ((lperm (cell ns 0) 6).map .int)) none (some (m : Nat)) h = .ok (.lst ((List.range m).map fun i => .int (num0 ns i))) h := fun h => by
    show Res.ok (Val.lst (cutL _ none (some ((m : Nat) : Int)))) h = _
    rw [cutL_to (by omega), Int.toNat_natCast, ← List.map_take, take_num h6, List.map_map]
    rfl
  generalize hb : h.length = b
  -- the houses
  obtain ⟨ys, g1, e1, a1, a2, a3⟩ := lc_inv (xs := (List.range m).map fun i => Val.int (num0 ns i)) (g := gNm 3) (te := eMake 0 m_House_init (aCons (eVar 3) (aNil))) (l := [some (.scr ns), some (.int (m : Nat)), some (.lst ((List.range m).map fun i => .int (num0 ns i))), none, none]) (h := h)
    (fun i acc h' => acc = (List.range i).map (fun j => Val.ref (b + 3 * j)) ∧ h'.length = b + 3 * i ∧ ∀ j, j < i → HE h' (b + 3 * j) (num0 ns j) 0 [] ∧ h'[b + 3 * j + 2]? = some (.dK [])) ⟨rfl, by omega, fun j hj => by omega⟩ (by
    rintro i x acc h' hx ⟨rfl, q2, q3⟩
    obtain ⟨hi, rfl⟩ : i < m ∧ x = .int (num0 ns i) := by
      rw [List.getElem?_map] at hx
      by_cases hi : i < m
      · rw [List.getElem?_range hi] at hx; exact ⟨hi, by cases hx; rfl⟩
      · rw [List.getElem?_eq_none (by simp; omega)] at hx; cases hx
    refine ⟨[some (.scr ns), some (.int (m : Nat)), some (.lst ((List.range m).map fun i => .int (num0 ns i))), some (.int (num0 ns i)), none], .ref h'.length, newH h' (num0 ns i), rfl, ?_, ?_, ?_, fun j hj => ?_⟩
    · have := at_init (h := h') (j := num0 ns i) (l0 := [])
      simp [this]
    · rw [List.range_succ, List.map_append, q2]; rfl
    · rw [newH_len, q2]; omega
    · by_cases e : j = i
      · subst e; rw [← q2]; exact ⟨HE.made _, by unfold newH; rw [List.getElem?_append_right (by omega), show h'.length + 2 - h'.length = 2 by omega]; rfl⟩
      · exact ⟨(q3 j (by omega)).1.app, by rw [newH, List.getElem?_append_left (by omega)]; exact (q3 j (by omega)).2⟩) (by rw [sizeLine_eq]; simp; omega)
  have lm : ((List.range m).map fun i => Val.int (num0 ns i)).length = m := by simp
  rw [lm] at a1 a2 a3
  -- the counts
  have e2 : ∀ hq, lcL (srcItems ((List.range m).map fun i => Val.int (num0 ns i))) (gNm 4) tYesM (eC (.int 0)) [some (.scr ns), some (.int (m : Nat)), some (.lst ((List.range m).map fun i => .int (num0 ns i))), none, none] (srcItems ((List.range m).map fun i => Val.int (num0 ns i))).len 0 hq [] = .ok ((List.range m).map fun _ => .int 0) hq := fun hq =>
    lc_mapM (fun _ => .int 0) (fun i hi => ⟨[some (.scr ns), some (.int (m : Nat)), some (.lst ((List.range m).map fun i => .int (num0 ns i))), none, some (.int (num0 ns i))], rfl, rfl⟩) (by rw [sizeLine_eq]; simp; omega)
  -- the books
  have e3 : ∀ hq : HM, lcL (srcItems ((List.range m).map fun i => Val.int (num0 ns i))) (gNm 4) tYesM (eDictK) [some (.scr ns), some (.int (m : Nat)), some (.lst ((List.range m).map fun i => .int (num0 ns i))), none, none] (srcItems ((List.range m).map fun i => Val.int (num0 ns i))).len 0 hq [] = .ok ((List.range m).map fun i => .ref (hq.length + i)) (hq ++ List.replicate m (Ob.dK [])) := fun hq => by
    obtain ⟨ys, g2, e3, b1, b2⟩ := lc_inv (xs := (List.range m).map fun i => Val.int (num0 ns i)) (g := gNm 4) (te := eDictK) (l := [some (.scr ns), some (.int (m : Nat)), some (.lst ((List.range m).map fun i => .int (num0 ns i))), none, none]) (h := hq)
      (fun i acc h' => acc = (List.range i).map (fun j => Val.ref (hq.length + j)) ∧ h' = hq ++ List.replicate i (Ob.dK [])) ⟨rfl, by simp⟩ (by
      rintro i x acc h' hx ⟨rfl, rfl⟩
      obtain ⟨v, hv⟩ : ∃ v, gNm 4 x [some (.scr ns), some (.int (m : Nat)), some (.lst ((List.range m).map fun i => .int (num0 ns i))), none, none] = some v := ⟨_, rfl⟩
      refine ⟨v, .ref (hq ++ List.replicate i (Ob.dK [])).length, (hq ++ List.replicate i (Ob.dK [])) ++ [.dK []], hv, rfl, ?_, ?_⟩
      · rw [List.range_succ, List.map_append]; simp
      · rw [List.append_assoc, List.replicate_succ']) (by rw [sizeLine_eq]; simp; omega)
    rw [lm] at b1 b2
    rw [e3, b1, b2]
  subst a1
  have lr : ((List.range m).map fun j => Val.ref (b + 3 * j)).length ≤ 1000 := by simp; omega
  have fr : ∀ (xs : List Val) (h : HM), fresh xs h = .ok (.ref h.length) (h ++ [.lst xs]) := fun xs h => rfl
  refine ⟨g1 ++ ([.lst ((List.range m).map fun j => .ref (b + 3 * j)), .lst ((List.range m).map fun _ => .int 0), .lst []] ++ List.replicate m (Ob.dK []) ++ [.lst ((List.range m).map fun i => .ref (b + 3 * m + 3 + i))]), ?_, ?_, ?_, fun i hi => ?_⟩
  · have mt : ∀ h, mkTup [.ref (b + 3 * m), .lst ((List.range m).map fun i => .int (num0 ns i)), .ref (b + 3 * m + 1), .ref (b + 3 * m + 2), .ref (b + 4 * m + 3)] h = .ok (stV (D0 b m) m (num0 ns)) h := fun h => ev_mkTup (by simp)
    generalize ((List.range m).map fun i => Val.int (num0 ns i)) = NV at *
    unfold m_law_start mF
    simp [c0, pm, sl, srcOf, wipeL, e1, e2, e3, fr, a2, -ev_mkTup]
    have ex1 : b + 3 * m + 1 + 1 + 1 + m = b + 4 * m + 3 := by omega
    have ex2 : b + 3 * m + 1 + 1 + 1 = b + 3 * m + 3 := by omega
    have ex3 : b + 3 * m + 1 + 1 = b + 3 * m + 2 := by omega
    rw [ex1, ex2, ex3, mt]
    rfl
  · have key : ∀ (k : Nat) (L : HM) (o : Ob), L[k]? = some o → (g1 ++ L)[b + 3 * m + k]? = some o := fun k L o e => by
      rw [List.getElem?_append_right (by omega)]
      have : b + 3 * m + k - g1.length = k := by omega
      rw [this]; exact e
    refine ⟨key 0 _ _ rfl, key 1 _ _ rfl, key 2 _ _ rfl, ?_, fun i hi => (a3 i hi).1.app, fun i hi => ?_, D0_sep⟩
    · show (g1 ++ _)[b + 4 * m + 3]? = _
      have : b + 4 * m + 3 = b + 3 * m + (m + 3) := by omega
      rw [this]
      refine key (m + 3) _ _ ?_
      rw [List.getElem?_append_right (by simp)]
      simp
      rfl
    · have hi : i < m := hi
      show (g1 ++ _)[b + 3 * m + 3 + i]? = _
      have : b + 3 * m + 3 + i = b + 3 * m + (3 + i) := by omega
      rw [this]
      refine key (3 + i) _ _ ?_
      rw [List.getElem?_append_left (by simp; omega), List.getElem?_append_right (by simp)]
      have : 3 + i - [Ob.lst ((List.range m).map fun j => Val.ref (b + 3 * j)), Ob.lst ((List.range m).map fun _ => Val.int 0), Ob.lst []].length = i := by simp
      rw [this, List.getElem?_replicate, if_pos hi]
      rfl
  · simp [a2]; omega
  · rw [List.getElem?_append_left (by omega)]
    exact (a3 i hi).2
end
end MM
namespace MM
open PySem L2 PySem.W
noncomputable section
section
variable {W : Wo} {i j : Nat} {w : Mk} {F : Fl} {ks : List Mk} {A G S : List Act} {a x : Act}
theorem Closed.grow2 (O : OkA A) (O2 : OkA (A ++ [a])) (C : Closed A G) : Closed (A ++ [a]) G := by
  refine ⟨fun x hx => mem_snoc.mpr (.inl (C.sub x hx)), fun b hb x hx hp => ?_, C.nd⟩
  obtain ⟨y, hy, e, _⟩ := O.pst b (C.sub b hb) _ hp
  have : x = y := O2.ij x hx y (mem_snoc.mpr (.inl hy)) e.symm
  rw [this]
  exact C.cl b hb y hy (by rw [e]; exact hp)
theorem Told.acted {E : List (Mk × Fl)} (T : Told W j w ks) (O : WOk W) (O2 : WOk (W.acted i a E)) (hi : i < W.m) (hj : j < W.m) (mk : a.mark = (W.num i, W.ct i + 1)) (hp : a.past = pastOf (W.S i) a.which) : Told (W.acted i a E) j w ks := by
  obtain ⟨G, C, h1, h2, h3, h4⟩ := T.ex
  have grow : ∀ b, b ∈ W.S j → b ∈ up W.S i (W.S i ++ [a]) j := fun b hb => by
    by_cases e : j = i
    · subst e; rw [up_same]; exact mem_snoc.mpr (.inl hb)
    · rw [up_ne e]; exact hb
  refine ⟨G, C.grow2 O.ok O2.ok, fun b hb hw => grow b (h1 b hb hw), h2, h3, fun x hx hm hw hn b hb hbw => ?_⟩
  rcases mem_snoc.mp (show x ∈ W.A ++ [a] from hx) with hx | rfl
  · exact h4 x hx hm hw hn b hb hbw
  · have : i = j := O.inj i hi j hj (by rw [mk] at hm; exact hm)
    subst this
    rw [hp, mem_pastOf]
    exact ⟨b, h1 b hb hbw, hbw.trans hw.symm, rfl⟩
theorem Told.lent {S' : List Act} {E' : List (Mk × Fl)} (T : Told W j w ks) (hs : ∀ b ∈ W.S i, b ∈ S') : Told (W.lent i S' E') j w ks := by
  obtain ⟨G, C, h1, h2, h3, h4⟩ := T.ex
  refine ⟨G, C, fun b hb hw => ?_, h2, h3, h4⟩
  show b ∈ up W.S i S' j
  by_cases e : j = i
  · subst e; rw [up_same]; exact hs b (h1 b hb hw)
  · rw [up_ne e]; exact h1 b hb hw
theorem Told.drop {ws : List Mk} (T : Told W j w ks) (hw : w ∉ ws) : Told (W.drop i ws) j w ks := by
  obtain ⟨G, C, h1, h2, h3, h4⟩ := T.ex
  refine ⟨G, C, fun b hb hbw => ?_, h2, h3, h4⟩
  show b ∈ up W.S i (drS (W.S i) ws) j
  by_cases e : j = i
  · subst e; rw [up_same]; exact mem_drS.mpr ⟨h1 b hb hbw, by rw [hbw]; exact hw⟩
  · rw [up_ne e]; exact h1 b hb hbw
theorem LiveAct.grow (O : WOk W) (hx : x ∈ W.A) (ha : a.idx = W.V.length) (L : LiveAct W.A x) : LiveAct (W.A ++ [a]) x := by
  rcases L with h | ⟨c, hc, h1, h2, h3⟩
  · exact .inl h
  · refine .inr ⟨c, mem_snoc.mpr (.inl hc), h1, h2, fun b hb hp => ?_⟩
    rcases mem_snoc.mp hb with hb | rfl
    · exact h3 b hb hp
    · have h4 := O.ok.lt x hx _ hp
      have h5 := (List.getElem?_eq_some_iff.mp (O.ix x hx)).1
      omega
theorem liveAct_new (O : WOk W) (hi : i < W.m) (ha : a.idx = W.V.length) (hp : a.past = pastOf (W.S i) a.which) (hF : getM (W.E i) a.which = some F) (hx : F.texts ≠ []) : LiveAct (W.A ++ [a]) a := by
  obtain ⟨_, L, _⟩ := (O.sh i hi).ok _ F hF
  have C := O.cl i hi
  obtain ⟨p, hp0⟩ : ∃ p, p ∈ F.texts := List.exists_mem_of_ne_nil _ hx
  obtain ⟨c, hc, e1, e2, e3, e4⟩ := (L.texts p).mp hp0
  refine .inr ⟨c, mem_snoc.mpr (.inl (C.sub c hc)), by rw [hp, mem_pastOf]; exact ⟨c, hc, e1, rfl⟩, e2, fun b hb hbp hcb => ?_⟩
  rw [hp, mem_pastOf] at hbp
  obtain ⟨d, hd, d1, d2⟩ := hbp
  rcases mem_snoc.mp hb with hb | rfl
  · have : d = b := O.ok.ij d (C.sub d hd) b hb d2
    subst this
    exact e4 d hd d1 hcb
  · have h5 := (List.getElem?_eq_some_iff.mp (O.ix d (C.sub d hd))).1
    omega
theorem DeedIs.live {c : Int} {E : List (Mk × Fl)} (D : DeedIs W c i a) (O : WOk W) (hi : i < W.m) : LiveAct (W.A ++ [a]) a ∧ a.idx = W.V.length ∧ a.mark = (W.num i, W.ct i + 1) ∧ a.past = pastOf (W.S i) a.which ∧ ¬ W.out a.which := by
  rcases D.2 with ⟨_, e⟩ | ⟨_, w, F, hw, hF, e⟩
  · have hno : ¬ W.out a.which := fun z => by
      obtain ⟨c, hc, hcw⟩ := O.oute _ z
      obtain ⟨d, hd, f1, _⟩ := O.ok.made c hc
      obtain ⟨k, hk, h1, h2, _⟩ := O.own d hd
      rw [f1, hcw, e] at h1 h2
      have : i = k := O.inj i hi k hk h1
      subst this
      simp at h2
      omega
    exact ⟨.inl (by rw [e]), by rw [e], by rw [e], by rw [e], hno⟩
  · have hm := List.mem_of_getElem? hw
    unfold liveK at hm
    have h2 := (List.mem_filter.mp hm).2
    simp only [deadE, hF, Bool.not_eq_true', decide_eq_false_iff_not] at h2
    have w1 : a.which = w := by rw [e]
    have hp : a.past = pastOf (W.S i) a.which := by rw [e]
    exact ⟨liveAct_new O hi (by rw [e]) hp (by rw [w1]; exact hF) h2, by rw [e], by rw [e], hp, by rw [w1]; exact O.live_in hi hF h2⟩
end
/-- what the law keeps of what was told -/
def knR (rows : List (Mk × KB)) (w : Mk) : List Mk := match getM rows w with
  | some q => q.1
  | none => []
structure PI31 (W : Wo) (T : Nat → List Tl) (R : Nat → Nat → List (Mk × KB)) (ks : List (Int × Mk)) : Prop where
  tk : ∀ i, i < 3 → ∀ j, j < 3 → j ≠ i → ∀ w, toldK (T i) (W.num j) w = knR (R i j) w
  ti : ∀ i, i < 3 → ∀ j, j < 3 → j ≠ i → ∀ w q, getM (R i j) w = some q → W.out w ∨ Told W j w q.1
  la : ∀ x ∈ W.A, LiveAct W.A x
  ks : ∀ i w, (i, w) ∈ ks → ∃ k : Nat, k < 3 ∧ i = (k : Int) ∧ W.out w ∧ ∀ a ∈ W.S k, a.which ≠ w
section
variable {W : Wo} {T : Nat → List Tl} {R : Nat → Nat → List (Mk × KB)} {ks : List (Int × Mk)} {i j : Nat} {w : Mk} {F : Fl} {a : Act}
theorem PI31.acted {E : List (Mk × Fl)} (P : PI31 W T R ks) (hm : W.m = 3) (O : WOk W) (O2 : WOk (W.acted i a E)) (hi : i < 3) (ix : a.idx = W.V.length) (mk : a.mark = (W.num i, W.ct i + 1)) (hp : a.past = pastOf (W.S i) a.which) (ln : LiveAct (W.A ++ [a]) a) (hno : ¬ W.out a.which) : PI31 (W.acted i a E) T R ks := by
  refine ⟨P.tk, fun k hk j hj hne w q hq => (P.ti k hk j hj hne w q hq).imp id fun t => t.acted O O2 (by omega) (by omega) mk hp, fun x hx => ?_, fun k w hk => ?_⟩
  · rcases mem_snoc.mp (show x ∈ W.A ++ [a] from hx) with h | rfl
    · exact (P.la x h).grow O h ix
    · exact ln
  · obtain ⟨q, hq, e, ho, hn⟩ := P.ks k w hk
    refine ⟨q, hq, e, ho, fun x hx => ?_⟩
    have hx : x ∈ up W.S i (W.S i ++ [a]) q := hx
    by_cases z : q = i
    · subst z
      rw [up_same] at hx
      rcases mem_snoc.mp hx with hx | rfl
      · exact hn x hx
      · exact fun z => hno (z ▸ ho)
    · rw [up_ne z] at hx; exact hn x hx
theorem PI31.lent {S' : List Act} {E' : List (Mk × Fl)} (P : PI31 W T R ks) (hs : ∀ b ∈ W.S i, b ∈ S') (hk : ∀ w, W.out w → (∀ b ∈ W.S i, b.which ≠ w) → ∀ b ∈ S', b.which ≠ w) : PI31 (W.lent i S' E') T R ks := by
  refine ⟨P.tk, fun k hk j hj hne w q hq => (P.ti k hk j hj hne w q hq).imp id fun t => t.lent hs, P.la, fun k w hq => ?_⟩
  obtain ⟨q, hq, e, ho, hn⟩ := P.ks k w hq
  refine ⟨q, hq, e, ho, fun x hx => ?_⟩
  have hx : x ∈ up W.S i S' q := hx
  by_cases z : q = i
  · subst z; rw [up_same] at hx; exact hk w ho hn x hx
  · rw [up_ne z] at hx; exact hn x hx
theorem PI31.drop {ws : List Mk} (P : PI31 W T R ks) (hi : i < 3) : PI31 (W.drop i ws) T R (ks ++ (ws.filter fun w => !decide (((i : Int), w) ∈ ks)).map fun w => ((i : Int), w)) := by
  refine ⟨P.tk, fun k hk j hj hne w q hq => ?_, P.la, fun k w hk => ?_⟩
  · by_cases hw : w ∈ ws
    · exact .inl (.inr hw)
    · exact (P.ti k hk j hj hne w q hq).imp .inl fun t => t.drop hw
  · have key : ∀ q w, (∀ a ∈ W.S q, a.which ≠ w) → ∀ a ∈ up W.S i (drS (W.S i) ws) q, a.which ≠ w := fun q w h a ha => by
      by_cases z : q = i
      · subst z; rw [up_same] at ha; exact h a (mem_drS.mp ha).1
      · rw [up_ne z] at ha; exact h a ha
    rcases List.mem_append.mp hk with hk | hk
    · obtain ⟨q, hq, e, ho, hn⟩ := P.ks k w hk
      exact ⟨q, hq, e, .inl ho, key q w hn⟩
    · obtain ⟨v, hv, e⟩ := List.mem_map.mp hk
      have hv2 := (List.mem_filter.mp hv).1
      cases e
      refine ⟨i, hi, rfl, .inr hv2, fun a ha => ?_⟩
      have ha : a ∈ up W.S i (drS (W.S i) ws) i := ha
      rw [up_same] at ha
      exact fun z => (mem_drS.mp ha).2 (z ▸ hv2)
/-- one tells another one what it heard -/
theorem PI31.told {rows : List (Mk × KB)} {rw' : List (Mk × KB)} {ad : Nat} (P : PI31 W T R ks) (hm : W.m = 3) (O : WOk W) (hi : i < 3) (hj : j < 3) (hne : j ≠ i) (h1 : ∀ w q, getM rows w = some q → ∃ F, getM (W.E j) w = some F ∧ q.1 = F.known) (h2 : ∀ w, knR rw' w = knR rows w) : PI31 W (up T i (putTl (T i) ⟨W.num j, ad, rw'⟩)) (up R i (up (R i) j rows)) ks := by
  refine ⟨fun k hk q hq hkq w => ?_, fun k hk q hq hkq w r hr => ?_, P.la, P.ks⟩
  · by_cases e : k = i
    · subst e
      rw [up_same, up_same, toldK_put]
      by_cases e2 : q = j
      · subst e2
        rw [if_pos rfl, up_same]
        exact h2 w
      · have : ¬ W.num q = W.num j := fun z => e2 (O.inj q (by omega) j (by omega) z)
        rw [if_neg this, up_ne e2]
        exact P.tk k hk q hq hkq w
    · rw [up_ne e, up_ne e]; exact P.tk k hk q hq hkq w
  · by_cases e : k = i
    · subst e
      rw [up_same] at hr
      by_cases e2 : q = j
      · subst e2
        rw [up_same] at hr
        obtain ⟨F, hF, e3⟩ := h1 w r hr
        by_cases ho : W.out w
        · exact .inl ho
        · rw [e3]; exact .inr (told_now O (by omega) ho hF)
      · rw [up_ne e2] at hr
        exact P.ti k hk q hq hkq w r hr
    · rw [up_ne e] at hr; exact P.ti k hk q hq hkq w r hr
end
end
end MM
namespace MM
open PySem L2 PySem.W
noncomputable section
def DD : Loci := D0 0 3
def far (q : Nat) : Prop := 16 ≤ q ∨ q = 2 ∨ q = 5 ∨ q = 8
theorem far_out {q : Nat} (h : far q) : Out DD 3 q := by
  unfold far at h
  refine ⟨?_, ?_, ?_, ?_, fun i hi => ?_, fun i hi => ?_⟩ <;> simp only [DD, D0] <;> omega
theorem DD_ha {i : Nat} : DD.ha i = 3 * i := by simp [DD, D0]
structure Ext31 (h : HM) (T : Nat → List Tl) (d : List (Mk × Nat)) (R : Nat → Nat → List (Mk × KB)) (od : Nat) (ks : List (Int × Mk)) : Prop where
  ht : ∀ i, i < 3 → TdAt h (DD.ha i) (T i)
  hr : ∀ i, i < 3 → ∀ t ∈ T i, 16 < t.ad
  hd : h[16]? = some (.dT (kvM Val.ref d))
  ds : ∀ i j : Nat, i < 3 → j < 3 → ∃ ad, getM d ((i : Int), (j : Int)) = some ad ∧ 16 < ad ∧ h[ad]? = some (.dT (kvM eKB (R i j)))
  ho : h[od]? = some (.dQ ks)
  od16 : 16 < od
section
variable {h h' : HM} {W : Wo} {T : Nat → List Tl} {d : List (Mk × Nat)} {R : Nat → Nat → List (Mk × KB)} {od : Nat} {ks : List (Int × Mk)} {i j gi to : Nat} {w : Mk} {F : Fl} {a : Act}
theorem Ext31.keep (X : Ext31 h T d R od ks) (k : ∀ q, q < h.length → far q → h'[q]? = h[q]?) : Ext31 h' T d R od ks := by
  have key : ∀ {q : Nat} {o : Ob}, h[q]? = some o → far q → h'[q]? = some o := fun {q o} e u => by
    rw [k q (List.getElem?_eq_some_iff.mp e).1 u]; exact e
  refine ⟨fun i hi => ⟨key (X.ht i hi).td ?_, fun t ht => ⟨key ((X.ht i hi).rows t ht).1 (.inl (Nat.le_of_lt (X.hr i hi t ht))), ((X.ht i hi).rows t ht).2⟩⟩, X.hr, key X.hd (.inl (Nat.le_refl _)), fun i j hi hj => ?_, key X.ho (.inl (Nat.le_of_lt X.od16)), X.od16⟩
  · rw [DD_ha]; unfold far; omega
  · obtain ⟨ad, h1, h2, h3⟩ := X.ds i j hi hj
    exact ⟨ad, h1, h2, key h3 (.inl (Nat.le_of_lt h2))⟩
theorem Ext31.app {g : HM} (X : Ext31 h T d R od ks) : Ext31 (h ++ g) T d R od ks := X.keep fun q hq _ => List.getElem?_append_left hq
theorem Ext31.frm (X : Ext31 h T d R od ks) (F : Frm DD 3 h h') : Ext31 h' T d R od ks := X.keep fun q hq hf => F.2 q hq (far_out hf)
/-- a file that is told, and led on -/
theorem lead_tell (O : WOk W) (hm : W.m = 3) (H : WAt DD W h) (hl : W.A.length ≤ 100) (hg : gi < W.m) (ht : to < W.m) (hF : getM (W.E gi) w = some F) (hc : F.texts ≠ [] ∨ ∃ a ∈ W.S to, a.which = w) :
    ∃ h1 h2 E' b, m_law_tell [stV DD W.m W.num, .int (to : Nat), .int (gi : Nat), eM w] h = .ok .non h1 ∧ m_House_file [.ref (DD.ha gi), eM w] h1 = .ok (eB (F, b)) h1 ∧ m_House_lead_on [.ref (DD.ha to), eB (F, b)] h1 = .ok (.bl (lacks (W.S to) (W.S gi) w)) h2 ∧
      vIx (.ref DD.hs) (.int (gi : Nat)) h1 = .ok (.ref (DD.ha gi)) h1 ∧ vIx (.ref DD.hs) (.int (to : Nat)) h1 = .ok (.ref (DD.ha to)) h1 ∧ isIns 0 (.ref (DD.ha gi)) h1 = true ∧ isIns 0 (.ref (DD.ha to)) h1 = true ∧
      WAt DD (W.lent to (tellS (W.S to) (W.S gi) w) E') h2 ∧ WOk (W.lent to (tellS (W.S to) (W.S gi) w) E') ∧ Frm DD 3 h h2 := by
  have et := at_tell O H hl hg ht w
  have sp := H.sp
  obtain ⟨x1, x2, x3, x4⟩ := sp.ba to ht
  have bklt : DD.ba to < h.length := (List.getElem?_eq_some_iff.mp (H.bk to ht)).1
  have Hg := (H.hh gi hg).set (k := DD.ba to) (o := .dK (kvB (tellS (W.S to) (W.S gi) w))) (sp.hb gi hg to ht).1 (sp.hb gi hg to ht).2
  have Ht := (H.hh to ht).set (k := DD.ba to) (o := .dK (kvB (tellS (W.S to) (W.S gi) w))) (sp.hb to ht to ht).1 (sp.hb to ht to ht).2
  have hs1 : (h.set (DD.ba to) (.dK (kvB (tellS (W.S to) (W.S gi) w))))[DD.hs]? = some (.lst ((List.range W.m).map fun i => .ref (DD.ha i))) := by rw [List.getElem?_set_ne x1]; exact H.hs
  have fr1 : ∀ q, q ≠ DD.ba to → (h.set (DD.ba to) (.dK (kvB (tellS (W.S to) (W.S gi) w))))[q]? = h[q]? := fun q hq => List.getElem?_set_ne (Ne.symm hq)
  have bk1 : (h.set (DD.ba to) (.dK (kvB (tellS (W.S to) (W.S gi) w))))[DD.ba to]? = some (.dK (kvB (tellS (W.S to) (W.S gi) w))) := List.getElem?_set_self bklt
  have ln1 : (h.set (DD.ba to) (.dK (kvB (tellS (W.S to) (W.S gi) w)))).length = h.length := by simp
  generalize h.set (DD.ba to) (.dK (kvB (tellS (W.S to) (W.S gi) w))) = h1 at *
  obtain ⟨b, ef⟩ := he_file Hg hF
  obtain ⟨h2, E', tk, H2, fr2, O2⟩ := take_lent (c := b) O hl hg ht hF Ht
  have idF := ((O.sh gi hg).ok w F hF).2.1.id
  have led := lead_take (k := kB b F.known) Ht (by
    rcases hc with hc | ⟨a, ha, haw⟩
    · exact .inl hc
    · refine .inr fun z => ?_
      obtain ⟨G, hG⟩ := (O.sh to ht).all a ha
      rw [haw, ← idF, z] at hG
      cases hG) tk
  refine ⟨h1, h2, E', b, et, ef, led, ix_range hs1 hg, ix_range hs1 ht, Hg.isI, Ht.isI, ?_, O2, by rw [fr2.len, ln1]; exact Nat.le_refl _, fun q hq o => ?_⟩
  · refine H.lent ht H2 (fun k k1 k2 k3 => by rw [fr2.get k k1 k2, fr1 k k3]) ?_
    rw [fr2.get _ (sp.hb to ht to ht).1 (sp.hb to ht to ht).2]; exact bk1
  · rw [fr2.get q (o.ha to (by omega)).1 (o.ha to (by omega)).2, fr1 q (o.ba to (by omega))]
theorem lead_none (O : WOk W) (H : WAt DD W h) (hg : gi < W.m) (ht : to < W.m) (hF : getM (W.E gi) w = some F) (h0 : F.texts = []) (hn : ∀ a ∈ W.S to, a.which ≠ w) :
    ∃ b, m_House_file [.ref (DD.ha gi), eM w] h = .ok (eB (F, b)) h ∧ m_House_lead_on [.ref (DD.ha to), eB (F, b)] h = .ok (.bl false) h := by
  obtain ⟨b, ef⟩ := he_file (H.hh gi hg) hF
  have idF := ((O.sh gi hg).ok w F hF).2.1.id
  refine ⟨b, ef, lead_skip (k := kB b F.known) (H.hh to ht) h0 ?_⟩
  cases e : getM (W.E to) F.id with
  | none => rfl
  | some G =>
    obtain ⟨⟨c, hc, hcw⟩, _⟩ := (O.sh to ht).ok _ G e
    exact absurd (hcw.trans idF) (hn c hc)
/-- all that holds -/
structure Inv31 (ns : List Int) (h : HM) (W : Wo) (T : Nat → List Tl) (d : List (Mk × Nat)) (R : Nat → Nat → List (Mk × KB)) (od : Nat) (ks : List (Int × Mk)) (N v : Nat) : Prop where
  H : WAt DD W h
  O : WOk W
  m : W.m = 3
  num : W.num = num0 ns
  X : Ext31 h T d R od ks
  P : PI31 W T R ks
  v : W.V.length ≤ v
  bT : ∀ i, (T i).length ≤ N
  bd : d.length ≤ 9 + N
  bk : ks.length ≤ 20 * N
theorem Inv31.up {ns : List Int} {N v N' v' : Nat} (I : Inv31 ns h W T d R od ks N v) (h1 : N ≤ N') (h2 : v ≤ v') : Inv31 ns h W T d R od ks N' v' := ⟨I.H, I.O, I.m, I.num, I.X, I.P, Nat.le_trans I.v h2, fun i => Nat.le_trans (I.bT i) h1, by have := I.bd; omega, by have := I.bk; omega⟩
theorem Inv31.app {ns : List Int} {N v : Nat} {g : HM} (I : Inv31 ns h W T d R od ks N v) : Inv31 ns (h ++ g) W T d R od ks N v := ⟨I.H.app, I.O, I.m, I.num, I.X.app, I.P, I.v, I.bT, I.bd, I.bk⟩
theorem Inv31.lead {ns : List Int} {N v : Nat} {E' : List (Mk × Fl)} (I : Inv31 ns h W T d R od ks N v) (hg : gi < W.m) (ht : to < W.m) (hF : getM (W.E gi) w = some F) (hc : F.texts ≠ [] ∨ ∃ a ∈ W.S to, a.which = w)
    (H2 : WAt DD (W.lent to (tellS (W.S to) (W.S gi) w) E') h') (O2 : WOk (W.lent to (tellS (W.S to) (W.S gi) w) E')) (F2 : Frm DD 3 h h') : Inv31 ns h' (W.lent to (tellS (W.S to) (W.S gi) w) E') T d R od ks N v := by
  have mem := tellS_mem (w := w) I.O.ok (I.O.cl to ht) (I.O.cl gi hg)
  refine ⟨H2, O2, I.m, I.num, I.X.frm F2, I.P.lent (fun b hb => (mem b).mpr (.inl hb)) (fun v ho hn b hb => ?_), I.v, I.bT, I.bd, I.bk⟩
  rcases (mem b).mp hb with hb | hb
  · exact hn b hb
  · intro z
    have hvw : v = w := z.symm.trans hb.2
    subst hvw
    rcases hc with hc | ⟨a, ha, haw⟩
    · exact I.O.live_in hg hF hc ho
    · exact hn a ha haw
end
end
end MM
namespace MM
open PySem L2 PySem.W
noncomputable section
def m_law_led_v1 : FM := mF 14 (sSeq (sAsg (eVar 0) (gTp 5 (gsCons (gNm 2) (gsCons (gNm 3) (gsCons (gNm 4) (gsCons (gNm 5) (gsCons (gNm 6) (gsNil))))))))
  (sSeq (sAsg (eCall m_law_mix (aCons (eVar 1) (aCons (eC (.int 9811)) (aCons (eC (.int 3)) (aNil))))) (gNm 7))
  (sSeq (sAsg (e2 vMod (e2 vAdd (e2 vAdd (eVar 7) (eC (.int 1))) (eCall m_law_mix (aCons (eVar 1) (aCons (eC (.int 9803)) (aCons (eC (.int 2)) (aNil)))))) (eC (.int 3))) (gNm 8))
  (sSeq (sAsg (eCall m_law_files (aCons (eVar 0) (aCons (eVar 7) (aNil)))) (gNm 9))
  (sSeq (sIf (tNotM (tTru (eVar 9))) (sRet (eC (.bl true))) (sNil))
  (sSeq (sAsg (e2 vIx (eVar 9) (eCall m_law_mix (aCons (eVar 1) (aCons (eC (.int 9791)) (aCons (eBi bLen (aCons (eVar 9) (aNil))) (aNil)))))) (gNm 10))
  (sSeq (sAsg (eBi bAny (aCons (eLock (e2 vIx (eVar 6) (eVar 8)) (eLc (iKeysA (e2 vIx (eVar 6) (eVar 8))) (gNm 12) (tYesM) (e2 vEq (e2 vIx (e2 vIx (eVar 5) (eVar 12)) (eC (.int 0))) (e2 vIx (eVar 10) (eC (.int 0)))) [12] frozen)) (aNil))) (gNm 11))
  (sSeq (sAsg (eBi bAny (aCons (eLock (e2 vIx (eVar 6) (eVar 7)) (eLc (iKeysA (e2 vIx (eVar 6) (eVar 7))) (gNm 12) (tYesM) (eAndM (e2 vEq (e2 vIx (e2 vIx (eVar 5) (eVar 12)) (eC (.int 0))) (e2 vIx (eVar 10) (eC (.int 0)))) (e2 vNotIn (eVar 12) (e2 vIx (eVar 6) (eVar 8)))) [12] frozen)) (aNil))) (gNm 13))
  (sSeq (sIf (tAndM (tNotM (tTru (e2 vIx (eVar 10) (eC (.int 4))))) (tNotM (tTru (eVar 11)))) (sAsg (eC (.bl false)) (gNm 13)) (sDrop (eCall m_law_tell (aCons (eVar 0) (aCons (eVar 8) (aCons (eVar 7) (aCons (e2 vIx (eVar 10) (eC (.int 0))) (aNil))))))))
  (sRet (eCall s_law_same (aCons (eMeth 0 m_House_lead_on (e2 vIx (eVar 2) (eVar 8)) (aCons (eMeth 0 m_House_file (e2 vIx (eVar 2) (eVar 7)) (aCons (e2 vIx (eVar 10) (eC (.int 0))) (aNil))) (aNil))) (aCons (eVar 13) (aNil))))))))))))))
/-- a walk over a book, locked meanwhile -/
theorem lock_book {S : List Act} {nb : Nat} {h : HM} {which te : EM} {g : GM} {l : Loc} {vs : List Nat} (f : Act → Val) (hB : h[nb]? = some (.dK (kvB S))) (lS : S.length ≤ 900) (hw : which l h = .ok (.ref nb) h) (hw2 : which l (h.set nb (.lK (kvB S))) = .ok (.ref nb) (h.set nb (.lK (kvB S))))
    (ht : ∀ a ∈ S, ∃ l1, g (.int (idxI a)) (wipeL l vs) = some l1 ∧ te l1 (h.set nb (.lK (kvB S))) = .ok (f a) (h.set nb (.lK (kvB S)))) :
    eLock which (eLc (iKeysA which) g tYesM te vs frozen) l h = .ok (.lst (S.map f)) h := by
  have nblt : nb < h.length := (List.getElem?_eq_some_iff.mp hB).1
  have hL : (h.set nb (.lK (kvB S)))[nb]? = some (.lK (kvB S)) := List.getElem?_set_self nblt
  have back : (h.set nb (.lK (kvB S))).set nb (.dK (kvB S)) = h := by rw [List.set_set, set_same hB]
  have kL : keysSrc (.ref nb) (h.set nb (.lK (kvB S))) = .ok (srcItems (S.map (Val.int ∘ idxI))) (h.set nb (.lK (kvB S))) := by
    simp only [keysSrc, hL, kvB_keys, List.map_map]
  have lc1 : lcL (srcItems (S.map (Val.int ∘ idxI))) g tYesM te (wipeL l vs) (srcItems (S.map (Val.int ∘ idxI))).len 0 (h.set nb (.lK (kvB S))) [] = .ok (S.map f) (h.set nb (.lK (kvB S))) :=
    lc_mapM f ht (by rw [sizeLine_eq]; omega)
  simp only [ev_eLock, hw, hB, lockO, ev_eLc, ev_iKeysA, hw2, Res.bind_ok, kL, lc1, ev_frozen, back]
/-- two different ones of m -/
theorem two_of3 {c : Int} {m : Nat} (hm : 2 ≤ m) {p q : Int} (hp : 0 < p) (hq : 0 < q) : ∃ i j : Nat, i < m ∧ j < m ∧ i ≠ j ∧ mix c p (m : Nat) = (i : Nat) ∧ ∀ h : HM, vMod (.int ((i : Int) + 1 + mix c q ((m : Nat) - 1))) (.int (m : Nat)) h = .ok (.int (j : Nat)) h := by
  obtain ⟨i, hiI, hi⟩ : ∃ i : Nat, (i : Int) = mix c p (m : Nat) ∧ i < m := by
    have h0 := mix_nn (c := c) (p := p) (m := (m : Int)) (by omega)
    have h1 := mix_lt (c := c) (p := p) (m := (m : Int)) (by omega)
    exact ⟨(mix c p (m : Int)).toNat, by omega, by omega⟩
  have x0 := mix_nn (c := c) (p := q) (m := ((m : Nat) : Int) - 1) (by omega)
  have x1 := mix_lt (c := c) (p := q) (m := ((m : Nat) : Int) - 1) (by omega)
  generalize mix c q (((m : Nat) : Int) - 1) = x at *
  obtain ⟨j, hjI, hj⟩ : ∃ j : Nat, (j : Int) = ((i : Int) + 1 + x) % (m : Nat) ∧ j < m := by
    have h0 := Int.emod_nonneg ((i : Int) + 1 + x) (b := (m : Int)) (by omega)
    have h1 := Int.emod_lt_of_pos ((i : Int) + 1 + x) (b := (m : Int)) (by omega)
    exact ⟨(((i : Int) + 1 + x) % (m : Int)).toNat, by omega, by omega⟩
  refine ⟨i, j, hi, hj, fun e => ?_, hiI.symm, fun h => by rw [ev_modI (by omega), hjI]⟩
  subst e
  by_cases h2 : (i : Int) + 1 + x < (m : Int)
  · rw [Int.emod_eq_of_lt (by omega) h2] at hjI; omega
  · have : ((i : Int) + 1 + x) % (m : Int) = (i : Int) + 1 + x - (m : Int) := by
      rw [← Int.sub_emod_right]
      exact Int.emod_eq_of_lt (by omega) (by omega)
    rw [this] at hjI; omega
section
variable {h h' : HM} {W : Wo} {T : Nat → List Tl} {d : List (Mk × Nat)} {R : Nat → Nat → List (Mk × KB)} {od : Nat} {ks : List (Int × Mk)} {ns : List Int} {N v : Nat}
theorem at_led31 (I : Inv31 ns h W T d R od ks N v) (hv : v < 60) (c : Int) :
    ∃ W' h', m_law_led_v1 [stV DD W.m W.num, .int c] h = .ok (.bl true) h' ∧ Inv31 ns h' W' T d R od ks N v := by
  have O := I.O
  have H := I.H
  have hm := I.m
  have lv := I.v
  have lA := O.ln
  obtain ⟨i, j, hi, hj, hne, ez1, ez2⟩ := two_of3 (c := c) (m := 3) (by omega) (p := 9811) (q := 9803) (by decide) (by decide)
  have ez1 : mix c 9811 3 = (i : Nat) := ez1
  have ez2 : ∀ h : HM, vMod (.int ((i : Int) + 1 + mix c 9803 2)) (.int 3) h = .ok (.int (j : Nat)) h := ez2
  have k1 : ∀ h, m_law_mix [.int c, .int 9811, .int 3] h = .ok (.int (i : Nat)) h := fun h => by rw [at_mix (by decide) (by decide), ez1]
  have k2 : ∀ h, m_law_mix [.int c, .int 9803, .int 2] h = .ok (.int (mix c 9803 2)) h := fun h => at_mix (by decide) (by decide)
  have hi : i < W.m := by omega
  have hj : j < W.m := by omega
  obtain ⟨g1, ef⟩ := at_filesW O H (by omega) hi
  have un : ∀ a2 a3 a4 a5 a6 l, gTp 5 (gsCons (gNm 2) (gsCons (gNm 3) (gsCons (gNm 4) (gsCons (gNm 5) (gsCons (gNm 6) (gsNil)))))) (stV DD W.m W.num) (some (stV DD W.m W.num) :: some (.int c) :: a2 :: a3 :: a4 :: a5 :: a6 :: l) = some (some (stV DD W.m W.num) :: some (.int c) :: some (.ref DD.hs) :: some (.lst ((List.range W.m).map fun i => .int (W.num i))) :: some (.ref DD.cs) :: some (.ref DD.as) :: some (.ref DD.bs) :: l) := fun _ _ _ _ _ _ => rfl
  have Ig : Inv31 ns (h ++ g1) W T d R od ks N v := I.app
  have Hg := Ig.H
  have mem : ∀ w ∈ srt ((W.E i).map (·.1)), ∃ F, getM (W.E i) w = some F := fun w hw => by
    have hw2 := mem_keysM.mp (srt_mem.mp hw)
    rw [hasM_get, Option.isSome_iff_exists] at hw2
    exact hw2
  generalize srt ((W.E i).map (·.1)) = K at *
  clear H I
  generalize h ++ g1 = h1 at *
  by_cases hK : K = []
  · subst hK
    refine ⟨W, h1, ?_, Ig⟩
    generalize stV DD W.m W.num = st at *
    unfold m_law_led_v1 mF
    simp [un, k1, k2, ez2, ef]
  · have hv : 0 < K.length := List.length_pos_iff.mpr hK
    have m0 := mix_nn (c := c) (p := 9791) (m := (K.length : Int)) (by omega)
    have m1 := mix_lt (c := c) (p := 9791) (m := (K.length : Int)) (by omega)
    have kmV : ∀ h, m_law_mix [.int c, .int 9791, .int (K.length : Nat)] h = .ok (.int (mix c 9791 K.length)) h := fun h => at_mix (by decide) (by omega)
    generalize mix c 9791 K.length = p at m0 m1 kmV
    have hp : p.toNat < K.length := by omega
    obtain ⟨F, hF⟩ := mem K[p.toNat] (List.getElem_mem hp)
    have kx : ∀ h, vIx (.lst (K.map (fileV2 (W.E i)))) (.int p) h = .ok (eB (F, false)) h := fun h => by
      have : (K.map (fileV2 (W.E i)))[p.toNat]? = some (eB (F, false)) := by simp [hp, fileV2, hF]
      simp only [vIx, atI_nat m0, this]
      rfl
    generalize K[p.toNat] = w at hF
    have L := ((O.sh i hi).ok w F hF).2.1
    have i0 : ∀ h, vIx (eB (F, false)) (.int 0) h = .ok (eM w) h := fun h => by rw [← L.id]; rfl
    have i4 : ∀ h, vIx (eB (F, false)) (.int 4) h = .ok (.tup (F.texts.map eW)) h := fun h => rfl
    have lnV : ∀ h, bLen [.lst (K.map (fileV2 (W.E i)))] h = .ok (.int (K.length : Nat)) h := fun h => by
      have : (K.map (fileV2 (W.E i))).length = K.length := by simp
      rw [ev_lenL, this]
    have nbi := Hg.bk i hi
    have nbj := Hg.bk j hj
    have sp := Hg.sp
    obtain ⟨x1, x2, x3, x4⟩ := sp.ba i hi
    obtain ⟨y1, y2, y3, y4⟩ := sp.ba j hj
    have bij := sp.bb i hi j hj hne
    have bi := ix_range Hg.bs hi
    have bj := ix_range Hg.bs hj
    have x00 : ∀ (b : Act) h, vIx (eAct b) (.int 0) h = .ok (eM b.which) h := fun _ _ => rfl
    have lI := (O.cl i hi).len O.ok
    have lJ := (O.cl j hj).len O.ok
    have has : ∀ (a0 a1 a2 a3 a4 a7 a9 : Option Val), eLock (e2 vIx (eVar 6) (eVar 8)) (eLc (iKeysA (e2 vIx (eVar 6) (eVar 8))) (gNm 12) (tYesM) (e2 vEq (e2 vIx (e2 vIx (eVar 5) (eVar 12)) (eC (.int 0))) (e2 vIx (eVar 10) (eC (.int 0)))) [12] frozen) [a0, a1, a2, a3, a4, some (.ref DD.as), some (.ref DD.bs), a7, some (.int (j : Nat)), a9, some (eB (F, false)), none, none, none] h1 = .ok (.lst ((W.S j).map fun a => .bl (decide (a.which = w)))) h1 := fun a0 a1 a2 a3 a4 a7 a9 => by
      have fr : ∀ q, q ≠ DD.ba j → (h1.set (DD.ba j) (.lK (kvB (W.S j))))[q]? = h1[q]? := fun q hq => List.getElem?_set_ne (Ne.symm hq)
      have asL : (h1.set (DD.ba j) (.lK (kvB (W.S j))))[DD.as]? = some (.lst W.V) := by rw [fr _ (Ne.symm y3)]; exact Hg.as
      have bsL : (h1.set (DD.ba j) (.lK (kvB (W.S j))))[DD.bs]? = some (.lst ((List.range W.m).map fun i => .ref (DD.ba i))) := by rw [fr _ (Ne.symm y4)]; exact Hg.bs
      refine lock_book (fun a => .bl (decide (a.which = w))) nbj (by omega) (by simp only [ev_e2, ev_VarS, ev_Var0, Res.bind_ok, bj]) (by simp only [ev_e2, ev_VarS, ev_Var0, Res.bind_ok]; exact ix_range bsL hj) fun a ha => ⟨[a0, a1, a2, a3, a4, some (.ref DD.as), some (.ref DD.bs), a7, some (.int (j : Nat)), a9, some (eB (F, false)), none, some (.int (idxI a)), none], rfl, ?_⟩
      have ixa := ix_act O.ix asL ((O.cl j hj).sub a ha)
      simp only [ev_e2, ev_VarS, ev_Var0, Res.bind_ok, ev_C, ixa, x00, i0, eq_mk]
    have due : ∀ (a0 a1 a2 a3 a4 a9 a11 : Option Val), eLock (e2 vIx (eVar 6) (eVar 7)) (eLc (iKeysA (e2 vIx (eVar 6) (eVar 7))) (gNm 12) (tYesM) (eAndM (e2 vEq (e2 vIx (e2 vIx (eVar 5) (eVar 12)) (eC (.int 0))) (e2 vIx (eVar 10) (eC (.int 0)))) (e2 vNotIn (eVar 12) (e2 vIx (eVar 6) (eVar 8)))) [12] frozen) [a0, a1, a2, a3, a4, some (.ref DD.as), some (.ref DD.bs), some (.int (i : Nat)), some (.int (j : Nat)), a9, some (eB (F, false)), a11, none, none] h1 = .ok (.lst ((W.S i).map fun a => .bl (decide (a.which = w) && !decide (idxI a ∈ (W.S j).map idxI)))) h1 := fun a0 a1 a2 a3 a4 a9 a11 => by
      have fr : ∀ q, q ≠ DD.ba i → (h1.set (DD.ba i) (.lK (kvB (W.S i))))[q]? = h1[q]? := fun q hq => List.getElem?_set_ne (Ne.symm hq)
      have asL : (h1.set (DD.ba i) (.lK (kvB (W.S i))))[DD.as]? = some (.lst W.V) := by rw [fr _ (Ne.symm x3)]; exact Hg.as
      have bsL : (h1.set (DD.ba i) (.lK (kvB (W.S i))))[DD.bs]? = some (.lst ((List.range W.m).map fun i => .ref (DD.ba i))) := by rw [fr _ (Ne.symm x4)]; exact Hg.bs
      have bjL : (h1.set (DD.ba i) (.lK (kvB (W.S i))))[DD.ba j]? = some (.dK (kvB (W.S j))) := by rw [fr _ (Ne.symm bij)]; exact nbj
      refine lock_book (fun a => .bl (decide (a.which = w) && !decide (idxI a ∈ (W.S j).map idxI))) nbi (by omega) (by simp only [ev_e2, ev_VarS, ev_Var0, Res.bind_ok, bi]) (by simp only [ev_e2, ev_VarS, ev_Var0, Res.bind_ok]; exact ix_range bsL hi) fun a ha => ⟨[a0, a1, a2, a3, a4, some (.ref DD.as), some (.ref DD.bs), some (.int (i : Nat)), some (.int (j : Nat)), a9, some (eB (F, false)), a11, some (.int (idxI a)), none], rfl, ?_⟩
      have ixa := ix_act O.ix asL ((O.cl i hi).sub a ha)
      have nin := notin_B (q := idxI a) bjL
      have bj2 := ix_range bsL hj
      simp only [ev_eAnd, ev_e2, ev_VarS, ev_Var0, Res.bind_ok, ev_C, ixa, x00, i0, eq_mk, ev_toB]
      by_cases e : a.which = w
      · simp only [e, decide_true, if_true, Bool.true_and, bj2, Res.bind_ok, nin]
      · simp only [e, decide_false, Bool.false_eq_true, if_false, Bool.false_and]
    have any1 := fun h => any_ok (xs := W.S j) (f := fun a => decide (a.which = w)) (h := h)
    have any2 := fun h => any_ok (xs := W.S i) (f := fun a => decide (a.which = w) && !decide (idxI a ∈ (W.S j).map idxI)) (h := h)
    have lkE : lacks (W.S j) (W.S i) w = (W.S i).any fun a => decide (a.which = w) && !decide (idxI a ∈ (W.S j).map idxI) := rfl
    rw [← lkE] at any2
    have hKe : (K.map (fileV2 (W.E i))).isEmpty = false := by cases K with
      | nil => exact absurd rfl hK
      | cons _ _ => rfl
    have hsi := ix_range Hg.hs hi
    have hsj := ix_range Hg.hs hj
    generalize ((W.S i).map fun a : Act => Val.bl (decide (a.which = w) && !decide (idxI a ∈ (W.S j).map idxI))) = Q at due any2
    generalize ((W.S j).map fun a : Act => Val.bl (decide (a.which = w))) = Q2 at has any1
    have stE : ∃ st, st = stV DD W.m W.num := ⟨_, rfl⟩
    by_cases hc : F.texts ≠ [] ∨ ∃ a ∈ W.S j, a.which = w
    · obtain ⟨h2, h3, E', b, q1, q2, q3, q4, q5, q6, q7, q8, q9, q10⟩ := lead_tell O hm Hg (by omega) hi hj hF hc
      refine ⟨_, h3, ?_, Ig.lead hi hj hF hc q8 q9 q10⟩
      have sb := fun h => same_bl (lacks (W.S j) (W.S i) w) h
      generalize lacks (W.S j) (W.S i) w = lk at *
      generalize stV DD W.m W.num = st at *
      have tst : tAndM (tNotM (tTru (e2 vIx (eVar 10) (eC (.int 4))))) (tNotM (tTru (eVar 11))) [some st, some (.int c), some (.ref DD.hs), some (.lst ((List.range W.m).map fun i => .int (W.num i))), some (.ref DD.cs), some (.ref DD.as), some (.ref DD.bs), some (.int (i : Nat)), some (.int (j : Nat)), some (.lst (K.map (fileV2 (W.E i)))), some (eB (F, false)), some (.bl ((W.S j).any fun a => decide (a.which = w))), none, some (.bl lk)] h1 = .ok false h1 := by
        by_cases z : F.texts = []
        · have : ((W.S j).any fun a => decide (a.which = w)) = true := by
            obtain ⟨a, ha, e⟩ := hc.resolve_left (fun q => q z)
            exact List.any_eq_true.mpr ⟨a, ha, by simp [e]⟩
          simp only [ev_tAnd, ev_tNot, ev_tTru, ev_e2, ev_VarS, ev_Var0, ev_C, Res.bind_ok, i4, tru_texts, decide_eq_true z, this, ev_truB, Bool.not_true, Bool.not_false, if_true]
        · simp only [ev_tAnd, ev_tNot, ev_tTru, ev_e2, ev_VarS, ev_Var0, ev_C, Res.bind_ok, i4, tru_texts, decide_eq_false z, Bool.not_true, Bool.not_false, Bool.false_eq_true, if_false]
      unfold m_law_led_v1 mF
      simp [un, k1, k2, ez2, ef, hKe, hK, kmV, kx, i0, -ev_lenL, lnV, has, due, any1, any2, tst, q1, q2, q3, q4, q5, q6, q7, sb, -ev_eLock, -ev_eLc, -ev_tAnd]
    · have hc2 : F.texts = [] ∧ ∀ a ∈ W.S j, a.which ≠ w := ⟨Classical.byContradiction fun z => hc (.inl z), fun a ha e => hc (.inr ⟨a, ha, e⟩)⟩
      obtain ⟨b, q2, q3⟩ := lead_none O Hg hi hj hF hc2.1 hc2.2
      refine ⟨W, h1, ?_, Ig⟩
      have sb := fun h => same_bl false h
      have f0 : ((W.S j).any fun a => decide (a.which = w)) = false := by
        rw [Bool.eq_false_iff]
        intro z
        obtain ⟨a, ha, e⟩ := List.any_eq_true.mp z
        exact hc2.2 a ha (of_decide_eq_true e)
      rw [f0] at any1
      have q6 := (Hg.hh i hi).isI
      have q7 := (Hg.hh j hj).isI
      generalize lacks (W.S j) (W.S i) w = lk at *
      generalize stV DD W.m W.num = st at *
      have tst : tAndM (tNotM (tTru (e2 vIx (eVar 10) (eC (.int 4))))) (tNotM (tTru (eVar 11))) [some st, some (.int c), some (.ref DD.hs), some (.lst ((List.range W.m).map fun i => .int (W.num i))), some (.ref DD.cs), some (.ref DD.as), some (.ref DD.bs), some (.int (i : Nat)), some (.int (j : Nat)), some (.lst (K.map (fileV2 (W.E i)))), some (eB (F, false)), some (.bl false), none, some (.bl lk)] h1 = .ok true h1 := by
        simp only [ev_tAnd, ev_tNot, ev_tTru, ev_e2, ev_VarS, ev_Var0, ev_C, Res.bind_ok, i4, tru_texts, decide_eq_true hc2.1, ev_truB, Bool.not_true, Bool.not_false, if_true]
      unfold m_law_led_v1 mF
      simp [un, k1, k2, ez2, ef, hKe, hK, kmV, kx, i0, -ev_lenL, lnV, has, due, any1, any2, tst, q2, q3, q6, q7, hsi, hsj, sb, -ev_eLock, -ev_eLc, -ev_tAnd]
end
end
end MM
namespace MM
open PySem L2 PySem.W
noncomputable section
def dropM : SM := (sSeq (sAsg (e2 vIx (eVar 0) (eC (.int 4))) (gNm 8))
  (sSeq (sSub (e2 vIx (eVar 0) (eC (.int 2))) (eVar 5) (e2 vAdd (e2 vIx (e2 vIx (eVar 0) (eC (.int 2))) (eVar 5)) (eC (.int 1))))
  (sSeq (sAsg (e2 vIx (eVar 6) (eCall m_law_mix (aCons (eVar 3) (aCons (eC (.int 9769)) (aCons (eBi bLen (aCons (eVar 6) (aNil))) (aNil)))))) (gNm 9))
  (sSeq (sLock (e2 vIx (eVar 8) (eVar 5)) (sAsg (eLc (iKeysA (e2 vIx (eVar 8) (eVar 5))) (gNm 11) (tOf (e2 vEq (e2 vIx (e2 vIx (e2 vIx (eVar 0) (eC (.int 3))) (eVar 11)) (eC (.int 0))) (eVar 9))) (eVar 11) [11] frozen) (gNm 10)))
  (sSeq (sSub (e2 vIx (eVar 8) (eVar 5)) (eBi bLen (aCons (e2 vIx (eVar 0) (eC (.int 3))) (aNil))) (eC (.bl true)))
  (sSeq (sDrop (eBm .list mAppend (e2 vIx (eVar 0) (eC (.int 3))) (aCons (eDisp mkTup (aCons (eVar 9) (aCons (eDisp mkTup (aCons (e2 vIx (e2 vIx (eVar 0) (eC (.int 1))) (eVar 5)) (aCons (e2 vIx (e2 vIx (eVar 0) (eC (.int 2))) (eVar 5)) (aNil)))) (aCons (eC (.str "drop")) (aCons (eC (.str "")) (aCons (eVar 10) (aCons (e2 vIx (e2 vIx (e2 vIx (eVar 0) (eC (.int 3))) (e2 vIx (eVar 10) (eC (.int 0)))) (eC (.int 5))) (aNil)))))))) (aNil))))
  (sRet (e2 vIs (eMeth 0 m_House_drop (e2 vIx (e2 vIx (eVar 0) (eC (.int 0))) (eVar 5)) (aCons (eVar 9) (aNil))) (eC .non)))))))))
section
variable {D : Loci} {h h' h5 : HM} {W : Wo} {i : Nat} {a : Act} {E : List (Mk × Fl)} {T : Nat → List Tl} {d : List (Mk × Nat)} {R : Nat → Nat → List (Mk × KB)} {od : Nat} {ks : List (Int × Mk)} {ns : List Int} {N v : Nat} {w : Mk} {F : Fl}
theorem WAt.acted2 (H : WAt D W h) (hi : i < W.m) (H1 : HE h5 (D.ha i) (W.num i) (W.ct i + 1) E)
    (fr : ∀ k, k ≠ D.ha i → k ≠ D.ha i + 1 → k ≠ D.cs → k ≠ D.as → k ≠ D.ba i → h5[k]? = h[k]?) (cs : h5[D.cs]? = some (.lst ((List.range W.m).map fun j => .int (up W.ct i (W.ct i + 1) j))))
    (as : h5[D.as]? = some (.lst (W.V ++ [eAct a]))) (ba : h5[D.ba i]? = some (.dK (kvB (W.S i ++ [a])))) : WAt D (W.acted i a E) h5 := by
  obtain ⟨l1, l2, l3, l4, l5, l6, sha, sba, shb, shh, sbb⟩ := H.sp
  obtain ⟨z1, z2, z3, z4⟩ := sha i hi _ (.inl rfl)
  obtain ⟨y1, y2, y3, y4⟩ := sha i hi _ (.inr rfl)
  obtain ⟨x1, x2, x3, x4⟩ := sba i hi
  obtain ⟨u1, u2⟩ := shb i hi i hi
  refine ⟨?_, cs, as, ?_, fun j hj => ?_, fun j hj => ?_, H.sp⟩
  · rw [fr _ (Ne.symm z1) (Ne.symm y1) l1 l2 (Ne.symm x1)]; exact H.hs
  · rw [fr _ (Ne.symm z4) (Ne.symm y4) (Ne.symm l5) (Ne.symm l6) (Ne.symm x4)]; exact H.bs
  · have hj : j < W.m := hj
    show HE h5 (D.ha j) (W.num j) (up W.ct i (W.ct i + 1) j) (up W.E i E j)
    by_cases e : j = i
    · subst e
      rw [up_same, up_same]; exact H1
    · rw [up_ne e, up_ne e]
      obtain ⟨z1', z2', z3', z4'⟩ := sha j hj _ (.inl rfl)
      obtain ⟨y1', y2', y3', y4'⟩ := sha j hj _ (.inr rfl)
      obtain ⟨u1', u2'⟩ := shb j hj i hi
      have s0 := shh i hi j hj (fun z => e z.symm)
      obtain ⟨D', e1, q⟩ := H.hh j hj
      exact ⟨D', e1, ⟨by rw [fr _ (by omega) (by omega) z2' z3' (Ne.symm u1')]; exact q.ins, by rw [fr _ (by omega) (by omega) y2' y3' (Ne.symm u2')]; exact q.sh⟩⟩
  · have hj : j < W.m := hj
    show h5[D.ba j]? = some (.dK (kvB (up W.S i (W.S i ++ [a]) j)))
    by_cases e : j = i
    · subst e
      rw [up_same]; exact ba
    · obtain ⟨x1', x2', x3', x4'⟩ := sba j hj
      obtain ⟨u1', u2'⟩ := shb i hi j hj
      have s0 := sbb i hi j hj (fun z => e z.symm)
      rw [up_ne e, fr _ u1' u2' x2' x3' (Ne.symm s0)]
      exact H.bk j hj
theorem Inv31.acted (I : Inv31 ns h W T d R od ks N v) (hi : i < W.m) (H2 : WAt DD (W.acted i a E) h') (O2 : WOk (W.acted i a E)) (F2 : Frm DD 3 h h') (ix : a.idx = W.V.length) (mk : a.mark = (W.num i, W.ct i + 1)) (hp : a.past = pastOf (W.S i) a.which) (ln : LiveAct (W.A ++ [a]) a) (hno : ¬ W.out a.which) : Inv31 ns h' (W.acted i a E) T d R od ks N (v + 1) := by
  have hm := I.m
  refine ⟨H2, O2, I.m, I.num, I.X.frm F2, I.P.acted I.m I.O O2 (by omega) ix mk hp ln hno, ?_, I.bT, I.bd, I.bk⟩
  show (W.V ++ [eAct a]).length ≤ v + 1
  have := I.v
  simp; omega
theorem at_deed31 (I : Inv31 ns h W T d R od ks N v) (hv : v < 60) (c : Int) :
    ∃ W' h', m_law_deed [stV DD W.m W.num, .int c] h = .ok (.bl true) h' ∧ Inv31 ns h' W' T d R od ks N (v + 1) := by
  have hm := I.m
  have lv := I.v
  obtain ⟨i, a, E, h', hi, e, H2, O2, F2, DI⟩ := at_deedI I.O I.H (by omega) (by omega) c
  obtain ⟨q1, q2, q3, q4, q5⟩ := DeedIs.live (E := E) DI I.O hi
  rw [hm] at F2
  exact ⟨_, h', e, I.acted hi H2 O2 F2 q2 q3 q4 q1 q5⟩
theorem at_dropM {V : List Mk} (I : Inv31 ns h W T d R od ks N v) (hv : v < 60) (hi : i < W.m) (c : Int) (hV : V ≠ []) (mem : ∀ w ∈ V, ∃ F, getM (W.E i) w = some F ∧ F.texts ≠ []) (a1 a2 a4 : Option Val) :
    ∃ W' h', dropM [some (stV DD W.m W.num), a1, a2, some (.int c), a4, some (.int (i : Nat)), some (.lst (V.map eM)), none, none, none, none, none, none] h = .rt (.bl true) h' ∧ Inv31 ns h' W' T d R od ks N (v + 1) := by
  have O := I.O
  have H := I.H
  have hm := I.m
  have lv := I.v
  have lA := O.ln
  have C := O.cl i hi
  have Sh := O.sh i hi
  have lE := Sh.len C
  have hv0 : 0 < V.length := List.length_pos_iff.mpr hV
  have m0 := mix_nn (c := c) (p := 9769) (m := (V.length : Int)) (by omega)
  have m1 := mix_lt (c := c) (p := 9769) (m := (V.length : Int)) (by omega)
  have kmV : ∀ h, m_law_mix [.int c, .int 9769, .int (V.length : Nat)] h = .ok (.int (mix c 9769 V.length)) h := fun h => at_mix (by decide) (by omega)
  generalize mix c 9769 V.length = j at m0 m1 kmV
  have hj : j.toNat < V.length := by omega
  obtain ⟨F, hF, hx⟩ := mem V[j.toNat] (List.getElem_mem hj)
  have kx : ∀ h, vIx (.lst (V.map eM)) (.int j) h = .ok (eM V[j.toNat]) h := fun h => by
    have : (V.map eM)[j.toNat]? = some (eM V[j.toNat]) := by simp [hj]
    simp only [vIx, atI_nat m0, this]
    rfl
  have lnV : ∀ h, bLen [.lst (V.map eM)] h = .ok (.int (V.length : Nat)) h := fun h => by
    have : (V.map eM).length = V.length := by simp
    rw [ev_lenL, this]
  generalize V[j.toNat] = w at hF kx
  obtain ⟨⟨c0, hc0, hcw0⟩, L, nn, g⟩ := Sh.ok w F hF
  have nd1 := g.known.nd
  have lk1 : F.known.length ≤ 1000 := by have := g.known.len; omega
  have rgw : Rg w := by have := g.id; rw [L.id] at this; exact this
  have hno : ¬ W.out w := fun z => O.live_in hi hF hx z
  have first : ∀ b ∈ W.A, b.which = w → b.first = F.first := fun b hb e => by
    rw [L.first c0 hc0 hcw0]
    exact O.ok.first b hb c0 (C.sub c0 hc0) (e.trans hcw0.symm)
  obtain ⟨a, ha⟩ : ∃ a, a = Act.mk W.V.length w (W.num i, W.ct i + 1) .drop (Str.ofString "") (pastOf (W.S i) w) F.first := ⟨_, rfl⟩
  have aw : a.which = w := by rw [ha]
  have akd : a.kind = .drop := by rw [ha]
  have aix : a.idx = W.V.length := by rw [ha]
  have amk : a.mark = (W.num i, W.ct i + 1) := by rw [ha]
  have ap : a.past = pastOf (W.S i) a.which := by rw [ha]
  have afs : a.first = F.first := by rw [ha]
  have NA : NewAct W.A a := O.new hi aix (by rw [aw]; exact hno) amk ap (fun b hb e => by rw [afs]; exact first b hb (e.trans aw)) (by rw [aw]; exact rgw) (by rw [afs]; exact ⟨g.first, g.fok⟩) (by rw [ha]; show PyData.strOk (Str.ofString "") = true; decide +kernel) (fun z => by rw [akd] at z; cases z) (fun z => by rw [akd] at z; cases z) (.inr ⟨c0, hc0, hcw0.trans aw.symm⟩)
  have O2 := O.acted hi NA aix (by rw [aw]; exact hno) amk ap (shelf_act O hi NA ap (by rw [akd]; decide) (by rw [aw]; exact hF))
  have actE : actF F a = dropF F (W.num i, W.ct i + 1) := by unfold actF; rw [akd, amk]
  rw [actE, aw] at O2
  have LA : LiveAct (W.A ++ [a]) a := liveAct_new O hi aix ap (by rw [aw]; exact hF) hx
  -- the heaps
  obtain ⟨l1, l2, l3, l4, l5, l6, sha, sba, shb, shh, sbb⟩ := H.sp
  obtain ⟨z1, z2, z3, z4⟩ := sha i hi _ (.inl rfl)
  obtain ⟨y1, y2, y3, y4⟩ := sha i hi _ (.inr rfl)
  obtain ⟨x1, x2, x3, x4⟩ := sba i hi
  obtain ⟨u1, u2⟩ := shb i hi i hi
  have c1 := ix_range H.cs hi
  have s1 := set_range (v := .int (W.ct i + 1)) H.cs hi
  have csl : DD.cs < h.length := (List.getElem?_eq_some_iff.mp H.cs).1
  have ufn : (fun j => Val.int (up W.ct i (W.ct i + 1) j)) = up (fun j => Val.int (W.ct j)) i (.int (W.ct i + 1)) := by
    funext j
    unfold up
    split <;> rfl
  rw [← ufn] at s1
  have cs2 : (h.set DD.cs (.lst ((List.range W.m).map fun j => .int (up W.ct i (W.ct i + 1) j))))[DD.cs]? = some (.lst ((List.range W.m).map fun j => .int (up W.ct i (W.ct i + 1) j))) := List.getElem?_set_self csl
  have fr2 : ∀ k, k ≠ DD.cs → (h.set DD.cs (.lst ((List.range W.m).map fun j => .int (up W.ct i (W.ct i + 1) j))))[k]? = h[k]? := fun k hk => List.getElem?_set_ne (Ne.symm hk)
  have ln2 : (h.set DD.cs (.lst ((List.range W.m).map fun j => .int (up W.ct i (W.ct i + 1) j)))).length = h.length := by simp
  have He2 : HE (h.set DD.cs (.lst ((List.range W.m).map fun j => .int (up W.ct i (W.ct i + 1) j)))) (DD.ha i) (W.num i) (W.ct i) (W.E i) := (H.hh i hi).set (Ne.symm z2) (Ne.symm y2)
  generalize h.set DD.cs (.lst ((List.range W.m).map fun j => .int (up W.ct i (W.ct i + 1) j))) = h2 at *
  have as2 : h2[DD.as]? = some (.lst W.V) := by rw [fr2 _ (Ne.symm l4)]; exact H.as
  have bs2 : h2[DD.bs]? = some (.lst ((List.range W.m).map fun i => .ref (DD.ba i))) := by rw [fr2 _ (Ne.symm l5)]; exact H.bs
  have bk2 : h2[DD.ba i]? = some (.dK (kvB (W.S i))) := by rw [fr2 _ x2]; exact H.bk i hi
  have bklt : DD.ba i < h2.length := (List.getElem?_eq_some_iff.mp bk2).1
  have lS := C.len O.ok
  -- what was known
  have hL : (h2.set (DD.ba i) (.lK (kvB (W.S i))))[DD.ba i]? = some (.lK (kvB (W.S i))) := List.getElem?_set_self bklt
  have asL : (h2.set (DD.ba i) (.lK (kvB (W.S i))))[DD.as]? = some (.lst W.V) := by rw [List.getElem?_set_ne x3]; exact as2
  have bsL : (h2.set (DD.ba i) (.lK (kvB (W.S i))))[DD.bs]? = some (.lst ((List.range W.m).map fun i => .ref (DD.ba i))) := by rw [List.getElem?_set_ne x4]; exact bs2
  have back : (h2.set (DD.ba i) (.lK (kvB (W.S i)))).set (DD.ba i) (.dK (kvB (W.S i))) = h2 := by rw [List.set_set, set_same bk2]
  have kL : keysSrc (.ref (DD.ba i)) (h2.set (DD.ba i) (.lK (kvB (W.S i)))) = .ok (srcItems ((W.S i).map (Val.int ∘ idxI))) (h2.set (DD.ba i) (.lK (kvB (W.S i)))) := by
    simp only [keysSrc, hL, kvB_keys, List.map_map]
  have x00 : ∀ (b : Act) h, vIx (eAct b) (.int 0) h = .ok (eM b.which) h := fun _ _ => rfl
  have st0 : ∀ h, vIx (stV DD W.m W.num) (.int 0) h = .ok (.ref DD.hs) h := fun h => rfl
  have st1 : ∀ h, vIx (stV DD W.m W.num) (.int 1) h = .ok (.lst ((List.range W.m).map fun i => .int (W.num i))) h := fun h => rfl
  have st2 : ∀ h, vIx (stV DD W.m W.num) (.int 2) h = .ok (.ref DD.cs) h := fun h => rfl
  have st3 : ∀ h, vIx (stV DD W.m W.num) (.int 3) h = .ok (.ref DD.as) h := fun h => rfl
  have st4 : ∀ h, vIx (stV DD W.m W.num) (.int 4) h = .ok (.ref DD.bs) h := fun h => rfl
  have nm1 : ∀ h, vIx (.lst ((List.range W.m).map fun i => .int (W.num i))) (.int (i : Nat)) h = .ok (.int (W.num i)) h := fun h => ix_rangeL hi
  have bi := ix_range bs2 hi
  have biL := ix_range bsL hi
  generalize stV DD W.m W.num = st at *
  have lc1 : lcL (srcItems ((W.S i).map (Val.int ∘ idxI))) (gNm 11) (tOf (e2 vEq (e2 vIx (e2 vIx (e2 vIx (eVar 0) (eC (.int 3))) (eVar 11)) (eC (.int 0))) (eVar 9))) (eVar 11) [some st, a1, a2, some (.int c), a4, some (.int (i : Nat)), some (.lst (V.map eM)), none, some (.ref DD.bs), some (eM w), none, none, none] (srcItems ((W.S i).map (Val.int ∘ idxI))).len 0 (h2.set (DD.ba i) (.lK (kvB (W.S i)))) [] = .ok (pastV (pastOf (W.S i) w)) (h2.set (DD.ba i) (.lK (kvB (W.S i)))) := by
    rw [lc_filterM (fun a : Act => decide (a.which = w)) (fun a : Act => .int (idxI a)) (fun a ha => ⟨_, rfl, by simp [st3, ix_act O.ix asL (C.sub a ha), x00, eq_mk], fun _ => by simp⟩) (by rw [sizeLine_eq]; omega)]
    unfold pastV pastOf
    rw [List.map_map]
    rfl
  -- the first of what was known
  obtain ⟨f0, pt, hpt, hf0, hfw⟩ : ∃ (f0 : Act) (pt : List Nat), pastOf (W.S i) w = f0.idx :: pt ∧ f0 ∈ W.S i ∧ f0.which = w := by
    have hm0 : c0.idx ∈ pastOf (W.S i) w := mem_pastOf.mpr ⟨c0, hc0, hcw0, rfl⟩
    cases e : pastOf (W.S i) w with
    | nil => rw [e] at hm0; cases hm0
    | cons x pt =>
      have : x ∈ pastOf (W.S i) w := by rw [e]; exact List.mem_cons_self
      obtain ⟨b, hb, hbw, rfl⟩ := mem_pastOf.mp this
      exact ⟨b, pt, rfl, hb, hbw⟩
  have px : ∀ h, vIx (.lst (pastV (pastOf (W.S i) w))) (.int 0) h = .ok (.int (idxI f0)) h := fun h => by
    rw [hpt]
    have e0 : (pastV (f0.idx :: pt))[(0 : Int).toNat]? = some (.int (idxI f0)) := rfl
    simp only [vIx, atI_nat (Int.le_refl 0), e0]
    rfl
  have x05 : ∀ h, vIx (eAct f0) (.int 5) h = .ok (.str F.first) h := fun h => by rw [L.first f0 hf0 hfw]; rfl
  -- the book
  have pv : putV (kvB (W.S i)) (.inl ((W.V.length : Nat) : Int)) (.bl true) = kvB (W.S i ++ [a]) := by
    unfold putV
    rw [if_neg]
    · simp [kvB, ha, idxI]
    · simp only [List.any_eq_true, not_exists, not_and, decide_eq_true_eq]
      intro p hp e
      unfold kvB at hp
      obtain ⟨x, hx, rfl⟩ := List.mem_map.mp hp
      have h1 := (List.getElem?_eq_some_iff.mp (O.ix x (C.sub x hx))).1
      have h2 : idxI x = ((W.V.length : Nat) : Int) := Sum.inl.inj e
      unfold idxI at h2; omega
  have s3 : setI (.ref (DD.ba i)) (.int ((W.V.length : Nat) : Int)) (.bl true) h2 = some (h2.set (DD.ba i) (.dK (kvB (W.S i ++ [a])))) := by
    have : (kvB (W.S i)).length < sizeLine := by rw [sizeLine_eq]; simp [kvB]; omega
    simp only [setI, bk2, if_pos this, keyOf, Option.map_some, pv]
  have ln := len_ref as2
  have fr3 : ∀ k, k ≠ DD.ba i → (h2.set (DD.ba i) (.dK (kvB (W.S i ++ [a]))))[k]? = h2[k]? := fun k hk => List.getElem?_set_ne (Ne.symm hk)
  have ba3 : (h2.set (DD.ba i) (.dK (kvB (W.S i ++ [a]))))[DD.ba i]? = some (.dK (kvB (W.S i ++ [a]))) := List.getElem?_set_self bklt
  have He3 : HE (h2.set (DD.ba i) (.dK (kvB (W.S i ++ [a])))) (DD.ha i) (W.num i) (W.ct i) (W.E i) := He2.set u1 u2
  have ln3 : (h2.set (DD.ba i) (.dK (kvB (W.S i ++ [a])))).length = h2.length := by simp
  generalize h2.set (DD.ba i) (.dK (kvB (W.S i ++ [a]))) = h3 at *
  have as3 : h3[DD.as]? = some (.lst W.V) := by rw [fr3 _ (Ne.symm x3)]; exact as2
  have cs3 : h3[DD.cs]? = some (.lst ((List.range W.m).map fun j => .int (up W.ct i (W.ct i + 1) j))) := by rw [fr3 _ (Ne.symm x2)]; exact cs2
  have c3 := ix_range cs3 hi
  rw [up_same] at c3
  have ixf := ix_act O.ix as3 (C.sub f0 hf0)
  have eA : Val.tup [eM w, eM (W.num i, W.ct i + 1), .str "drop", .str "", .lst (pastV (pastOf (W.S i) w)), .str F.first] = eAct a := by rw [ha]; rfl
  have mt1 : ∀ h, mkTup [.int (W.num i), .int (W.ct i + 1)] h = .ok (eM (W.num i, W.ct i + 1)) h := fun h => ev_mkTup (by simp)
  have mt : ∀ h, mkTup [eM w, eM (W.num i, W.ct i + 1), .str "drop", .str "", .lst (pastV (pastOf (W.S i) w)), .str F.first] h = .ok (eAct a) h := fun h => by rw [← eA]; exact ev_mkTup (by simp)
  have apd : mAppend (.ref DD.as) [eAct a] h3 = .ok .non (h3.set DD.as (.lst (W.V ++ [eAct a]))) := by
    have : W.V.length < sizeLine := by rw [sizeLine_eq]; omega
    simp only [mAppend, as3, if_pos this]
  have kd1 : isKd .list (.ref DD.as) h3 = true := by simp [isKd, seqL, as3]
  have aslt : DD.as < h3.length := (List.getElem?_eq_some_iff.mp as3).1
  have fr4 : ∀ k, k ≠ DD.as → (h3.set DD.as (.lst (W.V ++ [eAct a])))[k]? = h3[k]? := fun k hk => List.getElem?_set_ne (Ne.symm hk)
  have as4 : (h3.set DD.as (.lst (W.V ++ [eAct a])))[DD.as]? = some (.lst (W.V ++ [eAct a])) := List.getElem?_set_self aslt
  have He4 : HE (h3.set DD.as (.lst (W.V ++ [eAct a]))) (DD.ha i) (W.num i) (W.ct i) (W.E i) := He3.set (Ne.symm z3) (Ne.symm y3)
  have ln4 : (h3.set DD.as (.lst (W.V ++ [eAct a]))).length = h3.length := by simp
  generalize h3.set DD.as (.lst (W.V ++ [eAct a])) = h4 at *
  have hs4 : h4[DD.hs]? = some (.lst ((List.range W.m).map fun i => .ref (DD.ha i))) := by rw [fr4 _ l2, fr3 _ (Ne.symm x1), fr2 _ l1]; exact H.hs
  have hi4 := ix_range hs4 hi
  have isM := He4.isI
  obtain ⟨h5, e5, H5, fr5⟩ := he_drop He4 hF L.id hx nd1 lk1 (by omega)
  have W5 : WAt DD (W.acted i a (puM (W.E i) w (dropF F (W.num i, W.ct i + 1)))) h5 := by
    refine H.acted2 hi H5 (fun k k1 k2 k3 k4 k5 => ?_) ?_ ?_ ?_
    · rw [fr5.get k k1 k2, fr4 k k4, fr3 k k5, fr2 k k3]
    · rw [fr5.get _ (Ne.symm z2) (Ne.symm y2), fr4 _ l4]; exact cs3
    · rw [fr5.get _ (Ne.symm z3) (Ne.symm y3)]; exact as4
    · rw [fr5.get _ u1 u2, fr4 _ x3]; exact ba3
  have F5 : Frm DD 3 h h5 := ⟨by rw [fr5.len, ln4, ln3, ln2]; exact Nat.le_refl _, fun q hq o => by
    rw [fr5.get q (o.ha i (by omega)).1 (o.ha i (by omega)).2, fr4 q o.as, fr3 q (o.ba i (by omega)), fr2 q o.cs]⟩
  refine ⟨_, h5, ?_, I.acted hi W5 O2 F5 aix amk ap LA (by rw [aw]; exact hno)⟩
  generalize pastV (pastOf (W.S i) w) = P at *
  unfold dropM
  simp [st0, st1, st2, st3, st4, c1, s1, kmV, kx, -ev_lenL, lnV, bi, bk2, lockO, kL, biL, wipeL, lc1, back, ln, s3, nm1, c3, px, ixf, x05, mt1, mt, -ev_mkTup, apd, kd1, hi4, isM, e5]
end
end
end MM
namespace MM
open PySem L2 PySem.W
noncomputable section
def rowsK (E : List (Mk × Fl)) (b : Mk → Bool) : List (Mk × KB) := (srt (E.map (·.1))).map fun w => (w, (knownE E w, b w))
def rowsE (s : Nat) : EM := eBi bDictT (aCons (eLc (iVal (eCall m_law_files (aCons (eVar 0) (aCons (eVar s) (aNil))))) (gNm 7) (tYesM) (eDisp mkTup (aCons (e2 vIx (eVar 7) (eC (.int 0))) (aCons (e2 vIx (eVar 7) (eC (.int 2))) (aNil)))) [7] frozen) (aNil))
section
variable {D : Loci} {h h' : HM} {W : Wo} {i j k : Nat} {a : Act} {E : List (Mk × Fl)} {T : Nat → List Tl} {d : List (Mk × Nat)} {R : Nat → Nat → List (Mk × KB)} {od : Nat} {ks : List (Int × Mk)} {ns : List Int} {N v : Nat} {w : Mk} {F : Fl} {b : Mk → Bool}
theorem get_map {α : Type} {f : Mk → α} : ∀ {L : List Mk}, getM (L.map fun w => (w, f w)) w = if w ∈ L then some (f w) else none
  | [] => rfl
  | x :: L => by
    have ih := get_map (f := f) (L := L)
    unfold getM at ih ⊢
    simp only [List.map_cons, List.find?_cons]
    by_cases e : x = w
    · subst e; simp
    · simp only [e, decide_false, ih]
      have : (w ∈ x :: L) ↔ w ∈ L := by simp [Ne.symm e]
      simp only [this]
theorem get_rowsK : getM (rowsK E b) w = if w ∈ srt (E.map (·.1)) then some (knownE E w, b w) else none := get_map (f := fun w => (knownE E w, b w))
theorem rowsK_nd (nd : (E.map (·.1)).Nodup) : ((rowsK E b).map (·.1)).Nodup := by
  have : (rowsK E b).map (·.1) = srt (E.map (·.1)) := by simp [rowsK, Function.comp_def]
  rw [this]; exact srt_nd nd
theorem rowsK_len : (rowsK E b).length = E.length := by simp [rowsK, srt_len]
theorem srt_get (hw : w ∈ srt (E.map (·.1))) : ∃ F, getM E w = some F := by
  have hw2 := mem_keysM.mp (srt_mem.mp hw)
  rw [hasM_get, Option.isSome_iff_exists] at hw2
  exact hw2
theorem knR_rowsK {b c : Mk → Bool} : knR (rowsK E b) w = knR (rowsK E c) w := by
  unfold knR
  rw [get_rowsK, get_rowsK]
  by_cases e : w ∈ srt (E.map (·.1)) <;> simp [e]
theorem heard_rows : tupL (.tup ((srt (E.map (·.1))).map (heardB E b))) = some ((rowsK E b).map fun r => .tup [eM r.1, eKB r.2]) := by
  show some _ = some _
  congr 1
  unfold rowsK
  rw [List.map_map]
  apply List.map_congr_left
  intro w hw
  obtain ⟨F, hF⟩ := srt_get hw
  simp only [heardB, hF, Function.comp, knownE, eKB]
theorem WAt.fr1 (H : WAt D W h) (o : Out D W.m k) (fr : Fr1 k h h') : WAt D W h' := by
  have key : ∀ {q : Nat} {x : Ob}, h[q]? = some x → q ≠ k → h'[q]? = some x := fun {q x} e n => by
    rw [fr.get q n (List.getElem?_eq_some_iff.mp e).1]; exact e
  exact ⟨key H.hs (Ne.symm o.hs), key H.cs (Ne.symm o.cs), key H.as (Ne.symm o.as), key H.bs (Ne.symm o.bs), fun i hi => (H.hh i hi).fr1 fr (o.ha i hi).1 (o.ha i hi).2, fun i hi => key (H.bk i hi) (Ne.symm (o.ba i hi)), H.sp⟩
theorem Fr1.set {o : Ob} : Fr1 k h (h.set k o) := ⟨by simp, fun q hq _ => List.getElem?_set_ne (Ne.symm hq)⟩
theorem tell_told (I : Inv31 ns h W T d R od ks N v) (hv : v < 60) (hN : N ≤ 900) (hi : i < 3) (hj : j < 3) (hne : j ≠ i) :
    ∃ h2 h3 h4 ad vh T' d' R', (∀ s l, (∀ h, eVar 0 l h = .ok (stV DD W.m W.num) h) → (∀ h, eVar s l h = .ok (.int (j : Nat)) h) → (∀ x, ∃ l1, gNm 7 x (wipeL l [7]) = some l1 ∧ ∀ h, eVar 7 l1 h = .ok x h) → rowsE s l h = .ok (.ref ad) h2) ∧
      setI (.ref 16) (eM ((i : Int), (j : Int))) (.ref ad) h2 = some h3 ∧ m_House_heard [.ref (DD.ha j)] h3 = .ok vh h3 ∧ m_House_told_by [.ref (DD.ha i), .int (W.num j), vh] h3 = .ok .non h4 ∧
      vIx (.ref DD.hs) (.int (i : Nat)) h3 = .ok (.ref (DD.ha i)) h3 ∧ vIx (.ref DD.hs) (.int (j : Nat)) h3 = .ok (.ref (DD.ha j)) h3 ∧ isIns 0 (.ref (DD.ha i)) h3 = true ∧ isIns 0 (.ref (DD.ha j)) h3 = true ∧
      Inv31 ns h4 W T' d' R' od ks (N + 1) v := by
  have O := I.O
  have hm := I.m
  have lv := I.v
  have lA := O.ln
  have jm : j < W.m := by omega
  have im : i < W.m := by omega
  have Sh := O.sh j jm
  have lE := Sh.len (O.cl j jm)
  have bd := I.bd
  obtain ⟨g1, ef⟩ := at_filesW O I.H (by omega) jm
  have I1 : Inv31 ns (h ++ g1) W T d R od ks N v := I.app
  have l0 : h.length ≤ (h ++ g1).length := by simp
  generalize h ++ g1 = h1 at *
  clear I
  have nd0 := Sh.nd
  have bdt : bDictT [.lst ((srt ((W.E j).map (·.1))).map fun w => .tup [eM w, eKB (knownE (W.E j) w, false)])] h1 = .ok (.ref h1.length) (h1 ++ [.dT (kvM eKB (rowsK (W.E j) fun _ => false))]) := by
    have e : ((srt ((W.E j).map (·.1))).map fun w => Val.tup [eM w, eKB (knownE (W.E j) w, false)]) = (rowsK (W.E j) fun _ => false).map fun r => .tup [eM r.1, eKB r.2] := by
      unfold rowsK
      rw [List.map_map]
      rfl
    rw [e]
    simp only [bDictT, seqL, Option.bind_some, rows_kvM, merge_KB (rowsK_nd nd0)]
  have val : ∀ s l, (∀ h, eVar 0 l h = .ok (stV DD W.m W.num) h) → (∀ h, eVar s l h = .ok (.int (j : Nat)) h) → (∀ x, ∃ l1, gNm 7 x (wipeL l [7]) = some l1 ∧ ∀ h, eVar 7 l1 h = .ok x h) → rowsE s l h = .ok (.ref h1.length) (h1 ++ [.dT (kvM eKB (rowsK (W.E j) fun _ => false))]) := fun s l e0 es eg => by
    have lc := lc_files (l := wipeL l [7]) (g := gNm 7) (te := eDisp mkTup (aCons (e2 vIx (eVar 7) (eC (.int 0))) (aCons (e2 vIx (eVar 7) (eC (.int 2))) (aNil)))) (h := h1) (E := W.E j) (fun w => .tup [eM w, eKB (knownE (W.E j) w, false)]) (by omega) fun w F hF => by
      obtain ⟨l1, q1, q2⟩ := eg (eB (F, false))
      have L := (Sh.ok w F hF).2.1
      have x0 : ∀ h, vIx (eB (F, false)) (.int 0) h = .ok (eM w) h := fun h => by rw [← L.id]; rfl
      have x2 : ∀ h, vIx (eB (F, false)) (.int 2) h = .ok (kB false F.known) h := fun h => rfl
      have kn : knownE (W.E j) w = F.known := by unfold knownE; rw [hF]
      refine ⟨l1, q1, ?_⟩
      rw [kn]
      simp only [ev_eDisp, ev_aCons, ev_aNil, ev_e2, q2, Res.bind_ok, ev_C, x0, x2]
      exact ev_mkTup (by simp)
    unfold rowsE
    have sr : ∀ (x : List Val) h, srcOf (.lst x) h = .ok (srcItems x) h := fun _ _ => rfl
    simp only [ev_eBi, ev_aCons, ev_aNil, ev_eLc, ev_iVal, ev_eCall, e0, es, Res.bind_ok, ef, sr, lc, ev_frozen, bdt]
  -- the law's own
  have I2 : Inv31 ns (h1 ++ [.dT (kvM eKB (rowsK (W.E j) fun _ => false))]) W T d R od ks N v := I1.app
  have lt1 : h1.length < (h1 ++ [Ob.dT (kvM eKB (rowsK (W.E j) fun _ => false))]).length := by simp
  have at1 : (h1 ++ [Ob.dT (kvM eKB (rowsK (W.E j) fun _ => false))])[h1.length]? = some (.dT (kvM eKB (rowsK (W.E j) fun _ => false))) := by simp
  have ad16 : 16 < h1.length := Nat.lt_trans I1.X.od16 (List.getElem?_eq_some_iff.mp I1.X.ho).1
  generalize h1 ++ [Ob.dT (kvM eKB (rowsK (W.E j) fun _ => false))] = h2 at *
  generalize h1.length = ad at *
  clear ef bdt I1 l0
  have X2 := I2.X
  have H2 := I2.H
  have sI : setI (.ref 16) (eM ((i : Int), (j : Int))) (.ref ad) h2 = some (h2.set 16 (.dT (kvM Val.ref (puM d ((i : Int), (j : Int)) ad)))) := setI_M X2.hd (by omega)
  have fr3 : Fr1 16 h2 (h2.set 16 (.dT (kvM Val.ref (puM d ((i : Int), (j : Int)) ad)))) := Fr1.set
  have hd3 : (h2.set 16 (.dT (kvM Val.ref (puM d ((i : Int), (j : Int)) ad))))[16]? = some (.dT (kvM Val.ref (puM d ((i : Int), (j : Int)) ad))) := List.getElem?_set_self (by omega)
  generalize h2.set 16 (.dT (kvM Val.ref (puM d ((i : Int), (j : Int)) ad))) = h3 at *
  have o16 : Out DD W.m 16 := by rw [hm]; exact far_out (.inl (Nat.le_refl _))
  have H3 : WAt DD W h3 := H2.fr1 o16 fr3
  have T3 : ∀ k, k < 3 → TdAt h3 (DD.ha k) (T k) := fun k hk => (X2.ht k hk).fr1 fr3 (by rw [DD_ha]; omega) fun t ht => by have := X2.hr k hk t ht; omega
  have Hi := H3.hh i im
  have Hj := H3.hh j jm
  obtain ⟨bb, eh⟩ := he_heard Hj (by omega)
  obtain ⟨h4, et, Hi4, T4, fr4⟩ := he_told (num := W.num j) Hi (T3 i hi) (heard_rows (E := W.E j) (b := bb)) (rowsK_nd nd0) (by rw [rowsK_len]; omega) (by have := I2.bT i; omega)
  have oi : Out DD W.m (DD.ha i + 2) := by rw [hm, DD_ha]; refine far_out ?_; unfold far; omega
  have get4 : ∀ q, q ≠ 16 → q ≠ DD.ha i + 2 → q < h2.length → h4[q]? = h2[q]? := fun q q1 q2 q3 => by rw [fr4.get q q2 (Nat.lt_of_lt_of_le q3 fr3.len), fr3.get q q1 q3]
  have get : ∀ {q : Nat} {x : Ob}, h2[q]? = some x → 16 < q → h4[q]? = some x := fun {q x} e n => by
    rw [get4 q (by omega) (by rw [DD_ha]; omega) (List.getElem?_eq_some_iff.mp e).1]; exact e
  have P := I2.P.told (i := i) (j := j) (rows := rowsK (W.E j) fun _ => false) (rw' := rowsK (W.E j) bb) (ad := h3.length) hm O hi hj hne (fun w q hq => by
    rw [get_rowsK] at hq
    split at hq
    · rename_i hw
      obtain ⟨F, hF⟩ := srt_get hw
      cases hq
      exact ⟨F, hF, by simp only [knownE, hF]⟩
    · cases hq) fun w => knR_rowsK
  refine ⟨h2, h3, h4, ad, _, up T i (putTl (T i) ⟨W.num j, h3.length, rowsK (W.E j) bb⟩), puM d ((i : Int), (j : Int)) ad, up R i (up (R i) j (rowsK (W.E j) fun _ => false)), val, sI, eh, et, ix_range H3.hs im, ix_range H3.hs jm, Hi.isI, Hj.isI, ⟨H3.fr1 oi fr4, O, hm, I2.num, ⟨fun k hk => ?_, fun k hk t ht => ?_, ?_, fun a c ha hc => ?_, get X2.ho X2.od16, X2.od16⟩, P, lv, fun k => ?_, ?_, Nat.le_trans I2.bk (by omega)⟩⟩
  · by_cases e : k = i
    · subst e; rw [up_same]; exact T4
    · rw [up_ne e]
      exact (T3 k hk).fr1 fr4 (by rw [DD_ha, DD_ha]; omega) fun t ht => by have := X2.hr k hk t ht; rw [DD_ha]; omega
  · by_cases e : k = i
    · subst e
      rw [up_same] at ht
      rcases mem_putTl ht with rfl | ht
      · show 16 < h3.length
        have := fr3.len; omega
      · exact X2.hr k hk t ht
    · rw [up_ne e] at ht; exact X2.hr k hk t ht
  · rw [fr4.get 16 (by rw [DD_ha]; omega) (by have := fr3.len; omega)]; exact hd3
  · by_cases e : a = i ∧ c = j
    · obtain ⟨rfl, rfl⟩ := e
      refine ⟨ad, by rw [getM_put, if_pos rfl], ad16, ?_⟩
      rw [up_same, up_same]; exact get at1 ad16
    · obtain ⟨q, q1, q2, q3⟩ := X2.ds a c ha hc
      refine ⟨q, ?_, q2, ?_⟩
      · rw [getM_put, if_neg (fun z => e (by
          have z1 := congrArg Prod.fst z
          have z2 := congrArg Prod.snd z
          simp only at z1 z2
          omega))]; exact q1
      · have : up R i (up (R i) j (rowsK (W.E j) fun _ => false)) a c = R a c := by
          by_cases e1 : a = i
          · subst e1
            have : c ≠ j := fun z => e ⟨rfl, z⟩
            rw [up_same, up_ne this]
          · rw [up_ne e1]
        rw [this]; exact get q3 q2
  · have := I2.bT k
    by_cases e : k = i
    · subst e; rw [up_same]; exact Nat.le_trans putTl_len (by omega)
    · rw [up_ne e]; omega
  · have := puM_len (d := d) (w := ((i : Int), (j : Int))) (a := ad); omega
end
end
end MM
namespace MM
open PySem L2 PySem.W
noncomputable section
def m_law_forget_f1 : SM := sIf (tOf (e2 vEq (e2 vIx (e2 vIx (eVar 7) (eVar 15)) (eC (.int 0))) (eVar 14))) (sDrop (eDPopK (e2 vIx (eVar 8) (eVar 3)) (eVar 15))) (sNil)
def m_law_forget_f0 : SM := sSeq (sSubQ (eVar 2) (eDisp mkTup (aCons (eVar 3) (aCons (eVar 14) (aNil)))) (eC (.bl true)))
  (sFor (iVal (eBi bList (aCons (e2 vIx (eVar 8) (eVar 3)) (aNil)))) (gNm 15) m_law_forget_f1)
def m_law_forget : FM := mF 16 (sSeq (sAsg (eVar 0) (gTp 5 (gsCons (gNm 4) (gsCons (gNm 5) (gsCons (gNm 6) (gsCons (gNm 7) (gsCons (gNm 8) (gsNil))))))))
  (sSeq (sAsg (eLc (iArgs rng1 (aCons (eC (.int 3)) (aNil))) (gNm 10) (tOf (e2 vNe (eVar 10) (eVar 3))) (eVar 10) [10] frozen) (gNm 9))
  (sSeq (sAsg (eLc (iVal (eCall m_law_files (aCons (eVar 0) (aCons (eVar 3) (aNil))))) (gNm 12) (tNotM (tTru (e2 vIx (eVar 12) (eC (.int 4))))) (eVar 12) [12] frozen) (gNm 11))
  (sSeq (sAsg (eLc (iVal (eVar 11)) (gNm 12) (tTru (eBi bAll (aCons (eLc (iVal (eVar 9)) (gNm 10) (tYesM) (e2 vEq (eGet2 (e2 vIx (eVar 1) (eDisp mkTup (aCons (eVar 3) (aCons (eVar 10) (aNil))))) (e2 vIx (eVar 12) (eC (.int 0))) (eDisp mkTup (aNil))) (e2 vIx (eVar 12) (eC (.int 2)))) [10] frozen) (aNil)))) (e2 vIx (eVar 12) (eC (.int 0))) [12] frozen) (gNm 13))
  (sSeq (sIf (tNotM (tTru (eCall s_law_same (aCons (eMeth 0 m_House_can_forget (e2 vIx (eVar 4) (eVar 3)) (aCons (eBi bTuple (aCons (eLc (iVal (eVar 9)) (gNm 10) (tYesM) (e2 vIx (eVar 5) (eVar 10)) [10] frozen) (aNil))) (aNil))) (aCons (eBi bTuple (aCons (eVar 13) (aNil))) (aNil)))))) (sRet (eC (.bl false))) (sNil))
  (sSeq (sFor (iVal (eVar 13)) (gNm 14) m_law_forget_f0)
  (sRet (eCall s_law_same (aCons (eMeth 0 m_House_forget (e2 vIx (eVar 4) (eVar 3)) (aCons (eBi bTuple (aCons (eLc (iVal (eVar 9)) (gNm 10) (tYesM) (e2 vIx (eVar 5) (eVar 10)) [10] frozen) (aNil))) (aNil))) (aCons (eBi bLen (aCons (eVar 13) (aNil))) (aNil)))))))))))
theorem ev_eDPopK {mo me : EM} {l : Loc} {h : HM} : eDPopK mo me l h = (mo l h).bind fun o h1 => match o with
  | .ref n => if isDict n h1 = true then (me l h1).bind fun y h2 => match h2[n]? with
    | some (.dK kvs) => (match keyOf y with
      | some k => (match getK kvs k with
        | some v => .ok v (h2.set n (.dK (dropV kvs k)))
        | none => .bad)
      | none => .bad)
    | _ => .bad else .bad
  | _ => .bad := rfl
theorem ev_sSubQ {mo mi mv : EM} {l : Loc} {h : HM} : sSubQ mo mi mv l h = (mv l h).thn l fun y h1 => (mo l h1).thn l fun o h2 => (mi l h2).thn l fun i h3 => match setQ o i y h3 with
  | some h4 => .nx l h4
  | none => .bad := rfl
section
variable {D : Loci} {h h' : HM} {W : Wo} {i j k : Nat} {a : Act} {A S X Y : List Act} {E : List (Mk × Fl)} {T : Nat → List Tl} {d : List (Mk × Nat)} {R : Nat → Nat → List (Mk × KB)} {od : Nat} {ks : List (Int × Mk)} {ns : List Int} {N v : Nat} {w : Mk} {F : Fl} {L : List Mk}
theorem getK_B (ha : a ∈ S) : getK (kvB S) (.inl (idxI a)) = some (.bl true) := by
  unfold getK
  cases e : (kvB S).find? fun kv => decide (kv.1 = .inl (idxI a)) with
  | none =>
    rw [List.find?_eq_none] at e
    exact absurd (decide_eq_true rfl) (e (.inl (idxI a), .bl true) (List.mem_map.mpr ⟨a, ha, rfl⟩))
  | some p =>
    have := List.mem_of_find?_eq_some e
    unfold kvB at this
    obtain ⟨b, hb, rfl⟩ := List.mem_map.mp this
    rfl
theorem drop_B (hX : ∀ b ∈ X, b.idx ≠ a.idx) (hY : ∀ b ∈ Y, b.idx ≠ a.idx) : dropV (kvB (X ++ a :: Y)) (.inl (idxI a)) = kvB (X ++ Y) := by
  have key : ∀ {Z : List Act}, (∀ b ∈ Z, b.idx ≠ a.idx) → dropV (kvB Z) (.inl (idxI a)) = kvB Z := fun {Z} hZ => by
    unfold dropV kvB
    refine List.filter_eq_self.mpr fun p hp => ?_
    obtain ⟨b, hb, rfl⟩ := List.mem_map.mp hp
    refine decide_eq_true fun z => hZ b hb ?_
    have := Sum.inl.inj z
    unfold idxI at this
    omega
  have e1 : kvB (X ++ a :: Y) = kvB X ++ (.inl (idxI a), .bl true) :: kvB Y := by simp [kvB]
  have e2 : kvB (X ++ Y) = kvB X ++ kvB Y := by simp [kvB]
  have e3 : ∀ p q : List (Key × Val), dropV (p ++ q) (.inl (idxI a)) = dropV p (.inl (idxI a)) ++ dropV q (.inl (idxI a)) := fun p q => by simp [dropV]
  have e4 : dropV ((.inl (idxI a), .bl true) :: kvB Y) (.inl (idxI a)) = dropV (kvB Y) (.inl (idxI a)) := by simp [dropV]
  rw [e1, e3, e4, key hX, key hY, e2]
theorem pop_loop (C : Closed W.A S) (O : WOk W) (hA : h[D.as]? = some (.lst W.V)) (hB : h[D.ba i]? = some (.dK (kvB S))) (hb : h[D.bs]? = some (.lst ((List.range W.m).map fun i => .ref (D.ba i)))) (hi : i < W.m) (n1 : D.ba i ≠ D.as) (n2 : D.ba i ≠ D.bs) (x0 x1 x2 x4 x5 x6 x9 x10 x11 x12 x13 a15 : Option Val) :
    ∃ a15', forL (srcItems (S.map (Val.int ∘ idxI))) (gNm 15) m_law_forget_f1 (srcItems (S.map (Val.int ∘ idxI))).len 0 [x0, x1, x2, some (.int (i : Nat)), x4, x5, x6, some (.ref D.as), some (.ref D.bs), x9, x10, x11, x12, x13, some (eM w), a15] h = .nx [x0, x1, x2, some (.int (i : Nat)), x4, x5, x6, some (.ref D.as), some (.ref D.bs), x9, x10, x11, x12, x13, some (eM w), a15'] (h.set (D.ba i) (.dK (kvB (drS S [w])))) := by
  have nblt : D.ba i < h.length := (List.getElem?_eq_some_iff.mp hB).1
  obtain ⟨l', h', e, rfl, a15', rfl⟩ := for_inv (xs := S.map (Val.int ∘ idxI)) (g := gNm 15) (b := m_law_forget_f1) (l := [x0, x1, x2, some (.int (i : Nat)), x4, x5, x6, some (.ref D.as), some (.ref D.bs), x9, x10, x11, x12, x13, some (eM w), a15]) (h := h)
    (fun t l' h' => h' = h.set (D.ba i) (.dK (kvB (drS (S.take t) [w] ++ S.drop t))) ∧ ∃ a15, l' = [x0, x1, x2, some (.int (i : Nat)), x4, x5, x6, some (.ref D.as), some (.ref D.bs), x9, x10, x11, x12, x13, some (eM w), a15])
    ⟨by rw [List.take_zero, List.drop_zero]; exact (set_same hB).symm, a15, rfl⟩ (by
    rintro t x l' h' hx ⟨rfl, a15, rfl⟩
    obtain ⟨a, ha, rfl⟩ : ∃ a, S[t]? = some a ∧ x = .int (idxI a) := by
      rw [List.getElem?_map, Option.map_eq_some_iff] at hx
      obtain ⟨j, h1, h2⟩ := hx
      exact ⟨j, h1, h2.symm⟩
    have tk : S.take (t + 1) = S.take t ++ [a] := by rw [List.take_add_one, ha]; rfl
    have lt := (List.getElem?_eq_some_iff.mp ha).1
    have dr : S.drop t = a :: S.drop (t + 1) := by
      rw [List.drop_eq_getElem_cons lt]
      congr 1
      exact (List.getElem?_eq_some_iff.mp ha).2
    have sp : S = S.take t ++ a :: S.drop (t + 1) := by rw [← dr, List.take_append_drop]
    have am : a ∈ S := List.mem_of_getElem? ha
    have nd := C.nd
    rw [sp, List.map_append, List.map_cons] at nd
    obtain ⟨nd1, nd2, nd3⟩ := List.nodup_append.mp nd
    have hX : ∀ b ∈ drS (S.take t) [w], b.idx ≠ a.idx := fun b hb => nd3 b.idx (List.mem_map_of_mem (mem_drS.mp hb).1) a.idx List.mem_cons_self
    have hY : ∀ b ∈ S.drop (t + 1), b.idx ≠ a.idx := fun b hb e => (List.nodup_cons.mp nd2).1 (e ▸ List.mem_map_of_mem hb)
    rw [dr]
    have eN : drS (S.take (t + 1)) [w] = drS (S.take t) [w] ++ if a.which = w then [] else [a] := by
      rw [tk]
      unfold drS
      rw [List.filter_append]
      congr 1
      by_cases c : a.which = w <;> simp [c]
    rw [eN]
    have hA2 : (h.set (D.ba i) (.dK (kvB (drS (S.take t) [w] ++ a :: S.drop (t + 1)))))[D.as]? = some (.lst W.V) := by rw [List.getElem?_set_ne n1]; exact hA
    have hb2 : (h.set (D.ba i) (.dK (kvB (drS (S.take t) [w] ++ a :: S.drop (t + 1)))))[D.bs]? = some (.lst ((List.range W.m).map fun i => .ref (D.ba i))) := by rw [List.getElem?_set_ne n2]; exact hb
    have hB2 : (h.set (D.ba i) (.dK (kvB (drS (S.take t) [w] ++ a :: S.drop (t + 1)))))[D.ba i]? = some (.dK (kvB (drS (S.take t) [w] ++ a :: S.drop (t + 1)))) := List.getElem?_set_self nblt
    have ssq : ∀ Z, (h.set (D.ba i) (.dK (kvB (drS (S.take t) [w] ++ a :: S.drop (t + 1))))).set (D.ba i) Z = h.set (D.ba i) Z := fun Z => List.set_set ..
    generalize h.set (D.ba i) (.dK (kvB (drS (S.take t) [w] ++ a :: S.drop (t + 1)))) = h2 at *
    have ixa := ix_act O.ix hA2 (C.sub a am)
    have bi := ix_range hb2 hi
    have x00 : ∀ h, vIx (eAct a) (.int 0) h = .ok (eM a.which) h := fun _ => rfl
    have di : isDict (D.ba i) h2 = true := by unfold isDict; rw [hB2]
    refine ⟨[x0, x1, x2, some (.int (i : Nat)), x4, x5, x6, some (.ref D.as), some (.ref D.bs), x9, x10, x11, x12, x13, some (eM w), some (.int (idxI a))], [x0, x1, x2, some (.int (i : Nat)), x4, x5, x6, some (.ref D.as), some (.ref D.bs), x9, x10, x11, x12, x13, some (eM w), some (.int (idxI a))], _, rfl, ?_, rfl, some (.int (idxI a)), rfl⟩
    unfold m_law_forget_f1
    have ko : keyOf (.int (idxI a)) = some (.inl (idxI a)) := rfl
    have gk := getK_B (S := drS (S.take t) [w] ++ a :: S.drop (t + 1)) (a := a) (by simp)
    by_cases c : a.which = w
    · rw [if_pos c, List.append_nil]
      simp only [ev_sIf, ev_tOf, ev_e2, ev_VarS, ev_Var0, ev_C, Res.bind_ok, ixa, x00, eq_mk, decide_eq_true c, ev_toB, Res.thn_ok, if_true, ev_sDrop, ev_eDPopK, bi, di, hB2, ko, gk, drop_B hX hY, ssq]
    · rw [if_neg c]
      simp only [ev_sIf, ev_tOf, ev_e2, ev_VarS, ev_Var0, ev_C, Res.bind_ok, ixa, x00, eq_mk, decide_eq_false c, ev_toB, Res.thn_ok, Bool.false_eq_true, if_false, ev_sNil]
      congr 1
      have := set_same hB2
      rw [← this, ssq]
      simp)
  refine ⟨a15', ?_⟩
  rw [e]
  simp
def ksL (i : Nat) (ks : List (Int × Mk)) (L : List Mk) : List (Int × Mk) := ks ++ (L.filter fun w => !decide (((i : Int), w) ∈ ks)).map fun w => ((i : Int), w)
theorem mem_ksL (hw : w ∉ L) : ((i : Int), w) ∈ ksL i ks L ↔ ((i : Int), w) ∈ ks := by
  unfold ksL
  rw [List.mem_append]
  constructor
  · rintro (h | h)
    · exact h
    · obtain ⟨z, hz, e⟩ := List.mem_map.mp h
      have : z = w := congrArg Prod.snd e
      subst this
      exact absurd (List.mem_filter.mp hz).1 hw
  · exact .inl
theorem ksL_snoc (hw : w ∉ L) : ksL i ks (L ++ [w]) = if ((i : Int), w) ∈ ksL i ks L then ksL i ks L else ksL i ks L ++ [((i : Int), w)] := by
  by_cases c : ((i : Int), w) ∈ ks
  · rw [if_pos ((mem_ksL hw).mpr c)]
    unfold ksL
    simp [List.filter_append, c]
  · rw [if_neg (fun z => c ((mem_ksL hw).mp z))]
    unfold ksL
    simp [List.filter_append, c]
theorem ksL_len : (ksL i ks L).length ≤ ks.length + L.length := by
  unfold ksL
  rw [List.length_append, List.length_map]
  have := List.length_filter_le (fun w => !decide (((i : Int), w) ∈ ks)) L
  omega
theorem drS_drS : drS (drS S L) [w] = drS S (L ++ [w]) := by
  unfold drS
  rw [List.filter_filter]
  apply List.filter_congr
  intro a _
  by_cases c : a.which = w <;> simp [c]
theorem forget_loop (O : WOk W) (H : WAt D W h) (hi : i < W.m) (ho : h[od]? = some (.dQ ks)) (oo : Out D W.m od) (nd : L.Nodup) (ll : ks.length + L.length ≤ 100000) (x0 x1 x4 x5 x6 x9 x10 x11 x12 x13 a14 a15 : Option Val) :
    ∃ l' h', forL (srcItems (L.map eM)) (gNm 14) m_law_forget_f0 (srcItems (L.map eM)).len 0 [x0, x1, some (.ref od), some (.int (i : Nat)), x4, x5, x6, some (.ref D.as), some (.ref D.bs), x9, x10, x11, x12, x13, a14, a15] h = .nx l' h' ∧
      h'[od]? = some (.dQ (ksL i ks L)) ∧ h'[D.ba i]? = some (.dK (kvB (drS (W.S i) L))) ∧ h'.length = h.length ∧ (∀ q, q ≠ od → q ≠ D.ba i → h'[q]? = h[q]?) ∧
      ∃ a14 a15, l' = [x0, x1, some (.ref od), some (.int (i : Nat)), x4, x5, x6, some (.ref D.as), some (.ref D.bs), x9, x10, x11, x12, x13, a14, a15] := by
  obtain ⟨y1, y2, y3, y4⟩ := H.sp.ba i hi
  have ob := oo.ba i hi
  obtain ⟨l', h', e, q1, q2, q3, q4, q5⟩ := for_inv (xs := L.map eM) (g := gNm 14) (b := m_law_forget_f0) (l := [x0, x1, some (.ref od), some (.int (i : Nat)), x4, x5, x6, some (.ref D.as), some (.ref D.bs), x9, x10, x11, x12, x13, a14, a15]) (h := h)
    (fun r l' h' => h'[od]? = some (.dQ (ksL i ks (L.take r))) ∧ h'[D.ba i]? = some (.dK (kvB (drS (W.S i) (L.take r)))) ∧ h'.length = h.length ∧ (∀ q, q ≠ od → q ≠ D.ba i → h'[q]? = h[q]?) ∧
      ∃ a14 a15, l' = [x0, x1, some (.ref od), some (.int (i : Nat)), x4, x5, x6, some (.ref D.as), some (.ref D.bs), x9, x10, x11, x12, x13, a14, a15])
    ⟨by rw [List.take_zero]; unfold ksL; simpa using ho, by rw [List.take_zero]; have : drS (W.S i) [] = W.S i := by simp [drS]
                                                            rw [this]; exact H.bk i hi, rfl, fun q _ _ => rfl, a14, a15, rfl⟩ (by
    rintro r x l' h' hx ⟨q1, q2, q3, q4, a14, a15, rfl⟩
    obtain ⟨w, hw, rfl⟩ : ∃ w, L[r]? = some w ∧ x = eM w := by
      rw [List.getElem?_map, Option.map_eq_some_iff] at hx
      obtain ⟨j, h1, h2⟩ := hx
      exact ⟨j, h1, h2.symm⟩
    have tk : L.take (r + 1) = L.take r ++ [w] := by rw [List.take_add_one, hw]; rfl
    have lt := (List.getElem?_eq_some_iff.mp hw).1
    have wn : w ∉ L.take r := fun z => by
      have nd2 : (L.take r ++ [w]).Nodup := by rw [← tk]; exact nd.sublist (List.take_sublist _ _)
      exact (List.nodup_append.mp nd2).2.2 w z w (by simp) rfl
    have kl := ksL_len (i := i) (ks := ks) (L := L.take r)
    have tl : (L.take r).length ≤ L.length := by rw [List.length_take]; omega
    have sz : (ksL i ks (L.take r)).length < sizeLine := by rw [sizeLine_eq]; omega
    have sQ : setQ (.ref od) (.tup [.int (i : Nat), eM w]) (.bl true) h' = some (h'.set od (.dQ (ksL i ks (L.take r ++ [w])))) := by
      have e0 : isKQ (.tup [.int (i : Nat), eM w]) = some ((i : Int), w) := rfl
      rw [ksL_snoc wn]
      simp only [setQ, q1, if_pos sz, e0, Option.map_some]
    have odlt : od < h'.length := (List.getElem?_eq_some_iff.mp q1).1
    have fr1 : ∀ q, q ≠ od → (h'.set od (.dQ (ksL i ks (L.take r ++ [w]))))[q]? = h'[q]? := fun q hq => List.getElem?_set_ne (Ne.symm hq)
    have od1 : (h'.set od (.dQ (ksL i ks (L.take r ++ [w]))))[od]? = some (.dQ (ksL i ks (L.take r ++ [w]))) := List.getElem?_set_self odlt
    have ln1 : (h'.set od (.dQ (ksL i ks (L.take r ++ [w])))).length = h'.length := by simp
    generalize h'.set od (.dQ (ksL i ks (L.take r ++ [w]))) = h1 at *
    have B1 : h1[D.ba i]? = some (.dK (kvB (drS (W.S i) (L.take r)))) := by rw [fr1 _ (Ne.symm ob)]; exact q2
    have A1 : h1[D.as]? = some (.lst W.V) := by rw [fr1 _ (Ne.symm oo.as), q4 _ (Ne.symm oo.as) (Ne.symm y3)]; exact H.as
    have b1 : h1[D.bs]? = some (.lst ((List.range W.m).map fun i => .ref (D.ba i))) := by rw [fr1 _ (Ne.symm oo.bs), q4 _ (Ne.symm oo.bs) (Ne.symm y4)]; exact H.bs
    have C1 : Closed W.A (drS (W.S i) (L.take r)) := (O.cl i hi).drop O.ok
    obtain ⟨a15', ep⟩ := pop_loop (w := w) C1 O A1 B1 b1 hi y3 y4 x0 x1 (some (.ref od)) x4 x5 x6 x9 x10 x11 x12 x13 a15
    have balt : D.ba i < h1.length := (List.getElem?_eq_some_iff.mp B1).1
    have bl : bList [.ref (D.ba i)] h1 = .ok (.lst ((drS (W.S i) (L.take r)).map (Val.int ∘ idxI))) h1 := by
      simp only [bList, listOf, B1, kvB_keys, List.map_map]
    have bi := ix_range b1 hi
    have sr : ∀ (x : List Val) h, srcOf (.lst x) h = .ok (srcItems x) h := fun _ _ => rfl
    have mt : ∀ h, mkTup [.int (i : Nat), eM w] h = .ok (.tup [.int (i : Nat), eM w]) h := fun h => ev_mkTup (by simp)
    refine ⟨[x0, x1, some (.ref od), some (.int (i : Nat)), x4, x5, x6, some (.ref D.as), some (.ref D.bs), x9, x10, x11, x12, x13, some (eM w), a15], _, h1.set (D.ba i) (.dK (kvB (drS (drS (W.S i) (L.take r)) [w]))), rfl, ?_, ?_, ?_, ?_, fun q hq1 hq2 => ?_, some (eM w), a15', rfl⟩
    · unfold m_law_forget_f0
      simp only [ev_sSeq, ev_sSubQ, ev_C, Res.thn_ok, ev_VarS, ev_Var0, ev_eDisp, ev_aCons, ev_aNil, Res.bind_ok, mt, sQ, ev_sFor, ev_iVal, ev_eBi, ev_e2, bi, bl, sr, ep]
    · rw [List.getElem?_set_ne (Ne.symm ob), tk]; exact od1
    · rw [List.getElem?_set_self balt, drS_drS, tk]
    · simp [ln1, q3]
    · rw [List.getElem?_set_ne (Ne.symm hq2), fr1 q hq1, q4 q hq1 hq2])
  rw [List.length_map, List.take_length] at q1 q2
  exact ⟨l', h', e, q1, q2, q3, q4, q5⟩
end
end
end MM
namespace MM
open PySem L2 PySem.W
noncomputable section
section
variable {D : Loci} {h h' : HM} {W : Wo} {i j k : Nat} {a : Act} {A S X Y : List Act} {E : List (Mk × Fl)} {T : Nat → List Tl} {d : List (Mk × Nat)} {R : Nat → Nat → List (Mk × KB)} {od : Nat} {ks : List (Int × Mk)} {ns : List Int} {N v : Nat} {w : Mk} {F : Fl} {L : List Mk}
def othersK (i : Nat) : List Nat := (List.range 3).filter fun k => !decide (k = i)
theorem mem_others : k ∈ othersK i ↔ k < 3 ∧ k ≠ i := by simp [othersK]
theorem others_len : (othersK i).length ≤ 3 := Nat.le_trans (List.length_filter_le _ _) (by simp)
theorem lc_others {l : Loc} {h : HM} {s a : Nat} (hs : ∀ x, ∃ l1, gNm s x l = some l1 ∧ (∀ h, eVar s l1 h = .ok x h) ∧ (∀ h, eVar a l1 h = .ok (.int (i : Nat)) h)) :
    lcL (srcItems (intsV 0 3)) (gNm s) (tOf (e2 vNe (eVar s) (eVar a))) (eVar s) l (srcItems (intsV 0 3)).len 0 h [] = .ok ((othersK i).map fun k => .int (k : Nat)) h :=
  lc_filterM (xs := List.range 3) (e := fun k : Nat => .int (0 + (k : Int))) (fun k => !decide (k = i)) (fun k : Nat => .int (k : Nat)) (fun k hk => by
    obtain ⟨l1, q1, q2, q3⟩ := hs (.int (0 + (k : Int)))
    refine ⟨l1, q1, ?_, fun _ => ?_⟩
    · simp only [ev_tOf, ev_e2, q2, q3, Res.bind_ok, ev_neI, ev_toB]
      congr 2
      rw [decide_eq_decide]
      omega
    · rw [q2]
      congr 2
      omega) (by rw [sizeLine_eq]; simp)
theorem due_others (P : PI31 W T R ks) (hi : i < 3) : dueL (W.E i) (T i) ((othersK i).map W.num) = ((srt ((W.E i).map (·.1))).filter fun w => deadE (W.E i) w).filter fun w => (othersK i).all fun k => decide (knR (R i k) w = knownE (W.E i) w) := by
  unfold dueL
  apply List.filter_congr
  intro w _
  rw [List.all_map]
  rw [Bool.eq_iff_iff, List.all_eq_true, List.all_eq_true]
  constructor
  · intro q k hk
    have := q k hk
    simp only [Function.comp] at this
    rw [P.tk i hi k (mem_others.mp hk).1 (mem_others.mp hk).2 w] at this
    exact this
  · intro q k hk
    simp only [Function.comp]
    rw [P.tk i hi k (mem_others.mp hk).1 (mem_others.mp hk).2 w]
    exact q k hk
theorem lc_known (X : Ext31 h T d R od ks) (hi : i < 3) {kn : Val} {l : Loc} (hk : tupL kn = some (F.known.map eM))
    (hs : ∀ x, ∃ l1, gNm 10 x l = some l1 ∧ (∀ h, eVar 10 l1 h = .ok x h) ∧ (∀ h, eVar 1 l1 h = .ok (.ref 16) h) ∧ (∀ h, eVar 3 l1 h = .ok (.int (i : Nat)) h) ∧ ∀ h, eVar 12 l1 h = .ok (eB (F, false)) h) (h0 : ∀ h, vIx (eB (F, false)) (.int 0) h = .ok (eM w) h) (h2 : ∀ h, vIx (eB (F, false)) (.int 2) h = .ok kn h) :
    lcL (srcItems ((othersK i).map fun k => .int (k : Nat))) (gNm 10) tYesM (e2 vEq (eGet2 (e2 vIx (eVar 1) (eDisp mkTup (aCons (eVar 3) (aCons (eVar 10) (aNil))))) (e2 vIx (eVar 12) (eC (.int 0))) (eDisp mkTup (aNil))) (e2 vIx (eVar 12) (eC (.int 2)))) l (srcItems ((othersK i).map fun k => Val.int (k : Nat))).len 0 h [] = .ok ((othersK i).map fun k => .bl (decide (knR (R i k) w = F.known))) h :=
  lc_mapM (fun k => .bl (decide (knR (R i k) w = F.known))) (fun k hk' => by
    obtain ⟨l1, q1, q2, q3, q4, q5⟩ := hs (.int (k : Nat))
    obtain ⟨ad, a1, a2, a3⟩ := X.ds i k hi (mem_others.mp hk').1
    have mt : ∀ h, mkTup [.int (i : Nat), .int (k : Nat)] h = .ok (eM ((i : Int), (k : Int))) h := fun h => ev_mkTup (by simp)
    have m0 : ∀ h, mkTup [] h = .ok (.tup []) h := fun h => ev_mkTup (by simp)
    have ix := vIx_M X.hd a1
    have di : isDict ad h = true := by unfold isDict; rw [a3]
    have dg := dGet_M (w := w) a3
    refine ⟨l1, q1, ?_⟩
    simp only [ev_e2, ev_eGet2, q3, q4, q2, q5, Res.bind_ok, ev_eDisp, ev_aCons, ev_aNil, mt, ix, di, if_true, ev_C, h0, m0, dg]
    unfold knR
    cases e : getM (R i k) w with
    | none =>
      have e0 : vEq (.tup []) kn h = .ok (.bl (decide (([] : List Mk) = F.known))) h := eq_kn (ks := []) rfl hk
      simp only [Option.map_none, Res.bind_ok, h2, e0]
    | some q => simp only [Option.map_some, Res.bind_ok, h2, show eKB q = kB q.2 q.1 from rfl, eq_kn (ks := q.1) (tupL_kB _ _) hk]) (by rw [sizeLine_eq]; have := others_len (i := i); omega)
theorem at_forget31 (I : Inv31 ns h W T d R od ks N v) (hv : v ≤ 20) (hN : N ≤ 900) (hi : i < 3) :
    ∃ W' h' ks', m_law_forget [stV DD W.m W.num, .ref 16, .ref od, .int (i : Nat)] h = .ok (.bl true) h' ∧ Inv31 ns h' W' T d R od ks' (N + 1) v := by
  have O := I.O
  have hm := I.m
  have lv := I.v
  have lA := O.ln
  have im : i < W.m := by omega
  have Sh := O.sh i im
  have lE := Sh.len (O.cl i im)
  have nd0 := Sh.nd
  have P := I.P
  have bk := I.bk
  have due := due_others P hi
  obtain ⟨g1, ef⟩ := at_filesW O I.H (by omega) im
  have I1 : Inv31 ns (h ++ g1) W T d R od ks N v := I.app
  generalize h ++ g1 = h1 at *
  clear I
  have X1 := I1.X
  have H1 := I1.H
  -- what can be forgotten
  obtain ⟨nums, hnums⟩ : ∃ nums, nums = (othersK i).map W.num := ⟨_, rfl⟩
  have lnum : nums.length ≤ 3 := by rw [hnums, List.length_map]; exact others_len
  obtain ⟨g2, ec⟩ := he_canForget (H1.hh i im) (X1.ht i hi) (by omega) (nums := nums) (by omega)
  have I2 : Inv31 ns (h1 ++ g2) W T d R od ks N v := I1.app
  obtain ⟨ws, hws⟩ : ∃ ws, ws = dueL (W.E i) (T i) nums := ⟨_, rfl⟩
  rw [← hnums, ← hws] at due
  rw [← hws] at ec
  have wnd : ws.Nodup := by rw [hws]; exact dueL_nd nd0
  have lw : ws.length ≤ (W.E i).length := by
    rw [due]
    refine Nat.le_trans (List.length_filter_le _ _) (Nat.le_trans (List.length_filter_le _ _) ?_)
    rw [srt_len]; simp
  have isI1 := (H1.hh i im).isI
  have hs1 := ix_range H1.hs im
  -- what the law says of it
  obtain ⟨GL, hGL⟩ : ∃ GL, GL = (srt ((W.E i).map (·.1))).filter fun w => deadE (W.E i) w := ⟨_, rfl⟩
  have lG : GL.length ≤ 1000 := by
    rw [hGL]
    refine Nat.le_trans (List.length_filter_le _ _) ?_
    rw [srt_len]; simp; omega
  have gin : ∀ w ∈ GL, ∃ F, getM (W.E i) w = some F ∧ F.texts = [] := fun w hw => by
    rw [hGL] at hw
    obtain ⟨hw1, hw2⟩ := List.mem_filter.mp hw
    obtain ⟨F, hF⟩ := srt_get hw1
    refine ⟨F, hF, ?_⟩
    simp only [deadE, hF, decide_eq_true_eq] at hw2
    exact hw2
  have x2 : ∀ (F : Fl) h, vIx (eB (F, false)) (.int 2) h = .ok (kB false F.known) h := fun F h => rfl
  have x4 : ∀ (F : Fl) h, vIx (eB (F, false)) (.int 4) h = .ok (.tup (F.texts.map eW)) h := fun F h => rfl
  have x0 : ∀ w F, getM (W.E i) w = some F → ∀ h, vIx (eB (F, false)) (.int 0) h = .ok (eM w) h := fun w F e h => by rw [← ((O.sh i im).ok w F e).2.1.id]; rfl
  have hws3 : ∀ w ∈ ws, ∃ F, getM (W.E i) w = some F ∧ F.texts = [] ∧ (W.out w ∨ ∀ j, j < W.m → j ≠ i → Told W j w F.known) := fun w hw => by
    rw [due, ← hGL] at hw
    obtain ⟨hw1, hw2⟩ := List.mem_filter.mp hw
    obtain ⟨F, hF, ht⟩ := gin w hw1
    refine ⟨F, hF, ht, ?_⟩
    by_cases ho : W.out w
    · exact .inl ho
    · refine .inr fun j hj hne => ?_
      have := List.all_eq_true.mp hw2 j (mem_others.mpr ⟨by omega, hne⟩)
      have kn : knownE (W.E i) w = F.known := by unfold knownE; rw [hF]
      rw [decide_eq_true_eq, kn] at this
      obtain ⟨⟨c, hc, hcw⟩, Lf, _⟩ := Sh.ok w F hF
      cases e : getM (R i j) w with
      | none =>
        have e0 : F.known = [] := by rw [← this]; unfold knR; rw [e]
        have := (Lf.known c.mark).mpr ⟨c, hc, hcw, rfl, Int.le_refl _⟩
        rw [e0] at this
        exact absurd this (by simp [within])
      | some q =>
        have e0 : q.1 = F.known := by rw [← this]; unfold knR; rw [e]
        have := (P.ti i hi j (by omega) hne w q e).resolve_left ho
        rw [e0] at this; exact this
  have O2 := O.drop im P.la hws3
  have P2 := P.drop (ws := ws) hi
  -- the law's walk
  have unp : ∀ a4 a5 a6 a7 a8 l, gTp 5 (gsCons (gNm 4) (gsCons (gNm 5) (gsCons (gNm 6) (gsCons (gNm 7) (gsCons (gNm 8) (gsNil)))))) (stV DD W.m W.num) (some (stV DD W.m W.num) :: some (.ref 16) :: some (.ref od) :: some (.int (i : Nat)) :: a4 :: a5 :: a6 :: a7 :: a8 :: l) = some (some (stV DD W.m W.num) :: some (.ref 16) :: some (.ref od) :: some (.int (i : Nat)) :: some (.ref DD.hs) :: some (.lst ((List.range W.m).map fun i => .int (W.num i))) :: some (.ref DD.cs) :: some (.ref DD.as) :: some (.ref DD.bs) :: l) := fun _ _ _ _ _ _ => rfl
  have nmx : ∀ k, k ∈ othersK i → ∀ h, vIx (.lst ((List.range W.m).map fun i => .int (W.num i))) (.int (k : Nat)) h = .ok (.int (W.num k)) h := fun k hk h => ix_rangeL (by have := (mem_others.mp hk).1; omega)
  have r3 : ∀ h, rng1 [.int 3] h = .ok (srcItems (intsV 0 3)) h := fun h => ev_rng1 (by omega)
  obtain ⟨st, hst⟩ : ∃ st, st = stV DD W.m W.num := ⟨_, rfl⟩
  obtain ⟨NM, hNM⟩ : ∃ NM, NM = Val.lst ((List.range W.m).map fun i => .int (W.num i)) := ⟨_, rfl⟩
  rw [← hst, ← hNM] at unp
  rw [← hst] at ef
  rw [← hNM] at nmx
  rw [← hst]
  have lcO : ∀ h, lcL (srcItems (intsV 0 3)) (gNm 10) (tOf (e2 vNe (eVar 10) (eVar 3))) (eVar 10) [some st, some (.ref 16), some (.ref od), some (.int (i : Nat)), some (.ref DD.hs), some NM, some (.ref DD.cs), some (.ref DD.as), some (.ref DD.bs), none, none, none, none, none, none, none] (srcItems (intsV 0 3)).len 0 h [] = .ok ((othersK i).map fun k => .int (k : Nat)) h := fun h => lc_others fun x => ⟨_, rfl, fun h => rfl, fun h => rfl⟩
  have lcG : lcL (srcItems ((srt ((W.E i).map (·.1))).map (fileV2 (W.E i)))) (gNm 12) (tNotM (tTru (e2 vIx (eVar 12) (eC (.int 4))))) (eVar 12) [some st, some (.ref 16), some (.ref od), some (.int (i : Nat)), some (.ref DD.hs), some NM, some (.ref DD.cs), some (.ref DD.as), some (.ref DD.bs), some (.lst ((othersK i).map fun k => .int (k : Nat))), none, none, none, none, none, none] (srcItems ((srt ((W.E i).map (·.1))).map (fileV2 (W.E i)))).len 0 h1 [] = .ok (GL.map (fileV2 (W.E i))) h1 := by
    rw [hGL]
    refine lc_deads (fileV2 (W.E i)) (by omega) fun w F e => ⟨[some st, some (.ref 16), some (.ref od), some (.int (i : Nat)), some (.ref DD.hs), some NM, some (.ref DD.cs), some (.ref DD.as), some (.ref DD.bs), some (.lst ((othersK i).map fun k => .int (k : Nat))), none, none, some (eB (F, false)), none, none, none], rfl, ?_, ?_⟩
    · simp only [ev_tNot, ev_tTru, ev_e2, ev_VarS, ev_Var0, ev_C, Res.bind_ok, x4, tru_texts, Bool.not_not]
    · simp only [ev_VarS, ev_Var0, fileV2, e]
  have lcS : lcL (srcItems (GL.map (fileV2 (W.E i)))) (gNm 12) (tTru (eBi bAll (aCons (eLc (iVal (eVar 9)) (gNm 10) (tYesM) (e2 vEq (eGet2 (e2 vIx (eVar 1) (eDisp mkTup (aCons (eVar 3) (aCons (eVar 10) (aNil))))) (e2 vIx (eVar 12) (eC (.int 0))) (eDisp mkTup (aNil))) (e2 vIx (eVar 12) (eC (.int 2)))) [10] frozen) (aNil)))) (e2 vIx (eVar 12) (eC (.int 0))) [some st, some (.ref 16), some (.ref od), some (.int (i : Nat)), some (.ref DD.hs), some NM, some (.ref DD.cs), some (.ref DD.as), some (.ref DD.bs), some (.lst ((othersK i).map fun k => .int (k : Nat))), none, some (.lst (GL.map (fileV2 (W.E i)))), none, none, none, none] (srcItems (GL.map (fileV2 (W.E i)))).len 0 h1 [] = .ok (ws.map eM) h1 := by
    rw [due, ← hGL]
    refine lc_filterM (fun w => (othersK i).all fun k => decide (knR (R i k) w = knownE (W.E i) w)) eM (fun w hw => ?_) (by rw [sizeLine_eq]; omega)
    obtain ⟨F, hF, ht⟩ := gin w hw
    have kn : knownE (W.E i) w = F.known := by unfold knownE; rw [hF]
    have lk := lc_known (w := w) (F := F) X1 hi (kn := kB false F.known) (l := [some st, some (.ref 16), some (.ref od), some (.int (i : Nat)), some (.ref DD.hs), some NM, some (.ref DD.cs), some (.ref DD.as), some (.ref DD.bs), some (.lst ((othersK i).map fun k => .int (k : Nat))), none, some (.lst (GL.map (fileV2 (W.E i)))), some (eB (F, false)), none, none, none]) (tupL_kB _ _) (fun x => ⟨_, rfl, fun h => rfl, fun h => rfl, fun h => rfl, fun h => rfl⟩) (x0 w F hF) (x2 F)
    have sr : ∀ (x : List Val) h, srcOf (.lst x) h = .ok (srcItems x) h := fun _ _ => rfl
    refine ⟨[some st, some (.ref 16), some (.ref od), some (.int (i : Nat)), some (.ref DD.hs), some NM, some (.ref DD.cs), some (.ref DD.as), some (.ref DD.bs), some (.lst ((othersK i).map fun k => .int (k : Nat))), none, some (.lst (GL.map (fileV2 (W.E i)))), some (eB (F, false)), none, none, none], by simp only [fileV2, hF]; rfl, ?_, fun _ => ?_⟩
    · rw [kn]
      simp only [ev_tTru, ev_eBi, ev_aCons, ev_aNil, ev_eLc, ev_iVal, ev_VarS, ev_Var0, Res.bind_ok, sr, wipeL, List.set, lk, ev_frozen, all_ok, ev_truB]
    · simp only [ev_e2, ev_VarS, ev_Var0, Res.bind_ok, ev_C, x0 w F hF]
  have lcN : ∀ a13 a14 a15 h, lcL (srcItems ((othersK i).map fun k => .int (k : Nat))) (gNm 10) tYesM (e2 vIx (eVar 5) (eVar 10)) [some st, some (.ref 16), some (.ref od), some (.int (i : Nat)), some (.ref DD.hs), some NM, some (.ref DD.cs), some (.ref DD.as), some (.ref DD.bs), some (.lst ((othersK i).map fun k => .int (k : Nat))), none, some (.lst (GL.map (fileV2 (W.E i)))), none, a13, a14, a15] (srcItems ((othersK i).map fun k => Val.int (k : Nat))).len 0 h [] = .ok (nums.map .int) h := fun a13 a14 a15 h => by
    rw [hnums, List.map_map]
    exact lc_mapM (fun k => .int (W.num k)) (fun k hk => ⟨[some st, some (.ref 16), some (.ref od), some (.int (i : Nat)), some (.ref DD.hs), some NM, some (.ref DD.cs), some (.ref DD.as), some (.ref DD.bs), some (.lst ((othersK i).map fun k => .int (k : Nat))), some (.int (k : Nat)), some (.lst (GL.map (fileV2 (W.E i)))), none, a13, a14, a15], rfl, by simp only [ev_e2, ev_VarS, ev_Var0, Res.bind_ok, nmx k hk]⟩) (by rw [sizeLine_eq]; have := others_len (i := i); omega)
  have sm := same_marks ws (by omega) (h1 ++ g2)
  -- the walk over what is forgotten
  have X2 := I2.X
  have H2 := I2.H
  have oo : Out DD W.m od := by rw [hm]; exact far_out (.inl (Nat.le_of_lt X2.od16))
  obtain ⟨l', h3, el, q1, q2, q3, q4, a14, a15, rfl⟩ := forget_loop (L := ws) O H2 im X2.ho oo wnd (by omega) (some st) (some (.ref 16)) (some (.ref DD.hs)) (some NM) (some (.ref DD.cs)) (some (.lst ((othersK i).map fun k => .int (k : Nat)))) none (some (.lst (GL.map (fileV2 (W.E i))))) none (some (.lst (ws.map eM))) none none
  have sp := H2.sp
  have key : ∀ {q : Nat} {x : Ob}, (h1 ++ g2)[q]? = some x → q ≠ od → q ≠ DD.ba i → h3[q]? = some x := fun {q x} e n1 n2 => by rw [q4 q n1 n2]; exact e
  have He3 : HE h3 (DD.ha i) (W.num i) (W.ct i) (W.E i) := by
    obtain ⟨D', e, q⟩ := H2.hh i im
    exact ⟨D', e, ⟨key q.ins (oo.ha i im).1.symm (sp.hb i im i im).1.symm, key q.sh (oo.ha i im).2.symm (sp.hb i im i im).2.symm⟩⟩
  have ba16 : ∀ i, i < 3 → DD.ba i < 16 ∧ 11 < DD.ba i := fun i hi => by simp only [DD, D0]; omega
  have Td3 : ∀ k, k < 3 → TdAt h3 (DD.ha k) (T k) := fun k hk => by
    have b1 := ba16 i hi
    have o1 := X2.od16
    refine ⟨key (X2.ht k hk).td (by rw [DD_ha]; omega) (by rw [DD_ha]; omega), fun t ht => ⟨key ((X2.ht k hk).rows t ht).1 (fun z => ?_) (by have := X2.hr k hk t ht; omega), ((X2.ht k hk).rows t ht).2⟩⟩
    have := ((X2.ht k hk).rows t ht).1
    rw [z, X2.ho] at this
    cases this
  obtain ⟨h4, eg, He4, Td4, fr4⟩ := he_forget He3 (Td3 i hi) (by omega) nd0 (nums := nums) (by omega)
  rw [← hws] at eg He4
  have key4 : ∀ {q : Nat} {x : Ob}, (h1 ++ g2)[q]? = some x → q ≠ od → q ≠ DD.ba i → q ≠ DD.ha i + 1 → h4[q]? = some x := fun {q x} e n1 n2 n3 => by
    have := key e n1 n2
    rw [fr4.get q n3 (List.getElem?_eq_some_iff.mp this).1]; exact this
  obtain ⟨x1, y2, y3, y4⟩ := sp.ba i im
  obtain ⟨z1, z2, z3, z4⟩ := sp.ha i im _ (.inr rfl)
  have u2 := (sp.hb i im i im).2
  have W4 : WAt DD (W.drop i ws) h4 := by
    refine ⟨key4 H2.hs oo.hs.symm (Ne.symm x1) (Ne.symm z1), key4 H2.cs oo.cs.symm (Ne.symm y2) (Ne.symm z2), key4 H2.as oo.as.symm (Ne.symm y3) (Ne.symm z3), key4 H2.bs oo.bs.symm (Ne.symm y4) (Ne.symm z4), fun j hj => ?_, fun j hj => ?_, sp⟩
    · have hj : j < W.m := hj
      show HE h4 (DD.ha j) (W.num j) (W.ct j) (up W.E i _ j)
      by_cases e : j = i
      · subst e; rw [up_same]; exact He4
      · rw [up_ne e]
        obtain ⟨D', e1, q⟩ := H2.hh j hj
        have s0 := sp.hh i im j hj (fun z => e z.symm)
        have v1 := sp.hb j hj i im
        exact ⟨D', e1, ⟨key4 q.ins (oo.ha j hj).1.symm v1.1.symm (by omega), key4 q.sh (oo.ha j hj).2.symm v1.2.symm (by omega)⟩⟩
    · have hj : j < W.m := hj
      show h4[DD.ba j]? = some (.dK (kvB (up W.S i (drS (W.S i) ws) j)))
      by_cases e : j = i
      · subst e
        rw [up_same, fr4.get _ u2 (List.getElem?_eq_some_iff.mp q2).1]; exact q2
      · rw [up_ne e]
        exact key4 (H2.bk j hj) (oo.ba j hj).symm (sp.bb j hj i im e) (sp.hb i im j hj).2
  have o16 := X2.od16
  have h16 := ba16 i hi
  refine ⟨W.drop i ws, h4, ksL i ks ws, ?_, ⟨W4, O2, hm, I2.num, ⟨fun k hk => ?_, X2.hr, key4 X2.hd (by omega) (by omega) (by rw [DD_ha]; omega), fun a c ha hc => ?_, ?_, o16⟩, P2, lv, fun k => Nat.le_trans (I2.bT k) (by omega), Nat.le_trans I2.bd (by omega), ?_⟩⟩
  · have eg2 := eg
    have len : bLen [.lst (ws.map eM)] h3 = .ok (.int (ws.length : Nat)) h3 := by rw [ev_lenL]; simp
    have len4 : bLen [.lst (ws.map eM)] h4 = .ok (.int (ws.length : Nat)) h4 := by rw [ev_lenL]; simp
    have si := same_int (ws.length : Nat) h4
    have bt : ∀ (x : List Val) h, bTuple [.lst x] h = .ok (.tup x) h := fun x h => by simp [bTuple, seqL]
    have sr : ∀ (x : List Val) h, srcOf (.lst x) h = .ok (srcItems x) h := fun _ _ => rfl
    have hs3 : h3[DD.hs]? = some (.lst ((List.range W.m).map fun i => .ref (DD.ha i))) := key H2.hs oo.hs.symm (Ne.symm x1)
    have ix3 := ix_range hs3 im
    have isI3 := He3.isI
    unfold m_law_forget mF
    simp only [List.map_cons, List.map_nil, List.cons_append, List.nil_append, List.length_cons, List.length_nil, List.replicate, Nat.reduceAdd, Nat.reduceSub]
    simp only [ev_sSeq, ev_sAsg, ev_VarS, ev_Var0, Res.thn_ok, unp, ev_eLc, ev_iArgs, ev_aCons, ev_aNil, ev_C, Res.bind_ok, r3, wipeL, List.set, lcO, ev_frozen, ev_gNmS, ev_gNm0, Option.map_some, ev_iVal, ev_eCall, ef, sr, lcG, lcS, ev_sIf, ev_tNot, ev_tTru, ev_eMeth, ev_e2, hs1, isI1, if_true, ev_eBi, lcN, bt, ec, sm, ev_truB, Bool.not_true, Bool.false_eq_true, if_false, ev_sNil, ev_sFor, el, ev_sRet, ix3, isI3, eg, len4, si]
  · by_cases e : k = i
    · subst e; exact Td4
    · refine (Td3 k hk).fr1 fr4 (by rw [DD_ha, DD_ha]; omega) fun t ht => ?_
      have := X2.hr k hk t ht
      rw [DD_ha]; omega
  · obtain ⟨ad, a1, a2, a3⟩ := X2.ds a c ha hc
    refine ⟨ad, a1, a2, key4 a3 (fun z => ?_) (by omega) (by rw [DD_ha]; omega)⟩
    rw [z, X2.ho] at a3
    cases a3
  · rw [fr4.get od (oo.ha i im).2 (List.getElem?_eq_some_iff.mp q1).1]; exact q1
  · have := ksL_len (i := i) (ks := ks) (L := ws)
    omega
end
end
end MM
namespace MM
open PySem L2 PySem.W
noncomputable section
def m_law_turn_v3 : FM := mF 13 (sSeq (sAsg (eCall m_law_mix (aCons (eVar 3) (aCons (eC (.int 9787)) (aCons (eC (.int 9)) (aNil))))) (gNm 4))
  (sSeq (sAsg (eCall m_law_mix (aCons (eVar 3) (aCons (eC (.int 9781)) (aCons (eC (.int 3)) (aNil))))) (gNm 5))
  (sSeq (sAsg (eLc (iVal (eCall m_law_files (aCons (eVar 0) (aCons (eVar 5) (aNil))))) (gNm 7) (tTru (e2 vIx (eVar 7) (eC (.int 4)))) (e2 vIx (eVar 7) (eC (.int 0))) [7] frozen) (gNm 6))
  (sSeq (sIf (tOrM (tOf (e2 vLt (eVar 4) (eC (.int 2)))) (tAndM (tOf (e2 vEq (eVar 4) (eC (.int 2)))) (tNotM (tTru (eVar 6))))) (sRet (eCall m_law_deed (aCons (eVar 0) (aCons (eVar 3) (aNil))))) (sNil))
  (sSeq (sIf (tOf (e2 vEq (eVar 4) (eC (.int 2)))) (sSeq (sAsg (e2 vIx (eVar 0) (eC (.int 4))) (gNm 8))
  (sSeq (sSub (e2 vIx (eVar 0) (eC (.int 2))) (eVar 5) (e2 vAdd (e2 vIx (e2 vIx (eVar 0) (eC (.int 2))) (eVar 5)) (eC (.int 1))))
  (sSeq (sAsg (e2 vIx (eVar 6) (eCall m_law_mix (aCons (eVar 3) (aCons (eC (.int 9769)) (aCons (eBi bLen (aCons (eVar 6) (aNil))) (aNil)))))) (gNm 9))
  (sSeq (sLock (e2 vIx (eVar 8) (eVar 5)) (sAsg (eLc (iKeysA (e2 vIx (eVar 8) (eVar 5))) (gNm 11) (tOf (e2 vEq (e2 vIx (e2 vIx (e2 vIx (eVar 0) (eC (.int 3))) (eVar 11)) (eC (.int 0))) (eVar 9))) (eVar 11) [11] frozen) (gNm 10)))
  (sSeq (sSub (e2 vIx (eVar 8) (eVar 5)) (eBi bLen (aCons (e2 vIx (eVar 0) (eC (.int 3))) (aNil))) (eC (.bl true)))
  (sSeq (sDrop (eBm .list mAppend (e2 vIx (eVar 0) (eC (.int 3))) (aCons (eDisp mkTup (aCons (eVar 9) (aCons (eDisp mkTup (aCons (e2 vIx (e2 vIx (eVar 0) (eC (.int 1))) (eVar 5)) (aCons (e2 vIx (e2 vIx (eVar 0) (eC (.int 2))) (eVar 5)) (aNil)))) (aCons (eC (.str "drop")) (aCons (eC (.str "")) (aCons (eVar 10) (aCons (e2 vIx (e2 vIx (e2 vIx (eVar 0) (eC (.int 3))) (e2 vIx (eVar 10) (eC (.int 0)))) (eC (.int 5))) (aNil)))))))) (aNil))))
  (sRet (e2 vIs (eMeth 0 m_House_drop (e2 vIx (e2 vIx (eVar 0) (eC (.int 0))) (eVar 5)) (aCons (eVar 9) (aNil))) (eC .non))))))))) (sNil))
  (sSeq (sIf (tOf (e2 vLt (eVar 4) (eC (.int 6)))) (sRet (eCall m_law_led_v1 (aCons (eVar 0) (aCons (eVar 3) (aNil))))) (sNil))
  (sSeq (sAsg (e2 vMod (e2 vAdd (e2 vAdd (eVar 5) (eC (.int 1))) (eCall m_law_mix (aCons (eVar 3) (aCons (eC (.int 9767)) (aCons (eC (.int 2)) (aNil)))))) (eC (.int 3))) (gNm 12))
  (sSeq (sIf (tOf (e2 vLt (eVar 4) (eC (.int 8)))) (sSeq (sSub (eVar 1) (eDisp mkTup (aCons (eVar 5) (aCons (eVar 12) (aNil)))) (eBi bDictT (aCons (eLc (iVal (eCall m_law_files (aCons (eVar 0) (aCons (eVar 12) (aNil))))) (gNm 7) (tYesM) (eDisp mkTup (aCons (e2 vIx (eVar 7) (eC (.int 0))) (aCons (e2 vIx (eVar 7) (eC (.int 2))) (aNil)))) [7] frozen) (aNil))))
  (sRet (e2 vIs (eMeth 0 m_House_told_by (e2 vIx (e2 vIx (eVar 0) (eC (.int 0))) (eVar 5)) (aCons (e2 vIx (e2 vIx (eVar 0) (eC (.int 1))) (eVar 12)) (aCons (eMeth 0 m_House_heard (e2 vIx (e2 vIx (eVar 0) (eC (.int 0))) (eVar 12)) aNil) (aNil)))) (eC .non)))) (sNil))
  (sRet (eCall m_law_forget (aCons (eVar 0) (aCons (eVar 1) (aCons (eVar 2) (aCons (eVar 5) (aNil)))))))))))))))
def m_law_is_out_f0 : SM := sIf (tOrM (tTru (eBi bAny (aCons (eLc (iVal (e2 vIx (eVar 0) (eC (.int 0)))) (gNm 4) (tYesM) (e2 vIn (eVar 3) (eMeth 0 m_House_ids (eVar 4) aNil)) [4] frozen) (aNil)))) (tOf (e2 vIn (eVar 3) (eMeth 0 m_House_gone (e2 vIx (e2 vIx (eVar 0) (eC (.int 0))) (eVar 2)) aNil)))) (sRet (eC (.bl false))) (sNil)
def m_law_is_out : FM := mF 5 (sSeq (sLock (eVar 1) (sFor (iKeysQ (eVar 1)) (gTp 2 (gsCons (gNm 2) (gsCons (gNm 3) (gsNil)))) m_law_is_out_f0))
  (sRet (eBi bAll (aCons (eLc (iArgs rng1 (aCons (eC (.int 3)) (aNil))) (gNm 2) (tYesM) (eCall m_law_is_right_v2 (aCons (eVar 0) (aCons (eVar 2) (aNil)))) [2] frozen) (aNil)))))
theorem turn31_eq : m_law_turn_v3 = mF 13 (sSeq (sAsg (eCall m_law_mix (aCons (eVar 3) (aCons (eC (.int 9787)) (aCons (eC (.int 9)) (aNil))))) (gNm 4))
  (sSeq (sAsg (eCall m_law_mix (aCons (eVar 3) (aCons (eC (.int 9781)) (aCons (eC (.int 3)) (aNil))))) (gNm 5))
  (sSeq (sAsg (eLc (iVal (eCall m_law_files (aCons (eVar 0) (aCons (eVar 5) (aNil))))) (gNm 7) (tTru (e2 vIx (eVar 7) (eC (.int 4)))) (e2 vIx (eVar 7) (eC (.int 0))) [7] frozen) (gNm 6))
  (sSeq (sIf (tOrM (tOf (e2 vLt (eVar 4) (eC (.int 2)))) (tAndM (tOf (e2 vEq (eVar 4) (eC (.int 2)))) (tNotM (tTru (eVar 6))))) (sRet (eCall m_law_deed (aCons (eVar 0) (aCons (eVar 3) (aNil))))) (sNil))
  (sSeq (sIf (tOf (e2 vEq (eVar 4) (eC (.int 2)))) dropM (sNil))
  (sSeq (sIf (tOf (e2 vLt (eVar 4) (eC (.int 6)))) (sRet (eCall m_law_led_v1 (aCons (eVar 0) (aCons (eVar 3) (aNil))))) (sNil))
  (sSeq (sAsg (e2 vMod (e2 vAdd (e2 vAdd (eVar 5) (eC (.int 1))) (eCall m_law_mix (aCons (eVar 3) (aCons (eC (.int 9767)) (aCons (eC (.int 2)) (aNil)))))) (eC (.int 3))) (gNm 12))
  (sSeq (sIf (tOf (e2 vLt (eVar 4) (eC (.int 8)))) (sSeq (sSub (eVar 1) (eDisp mkTup (aCons (eVar 5) (aCons (eVar 12) (aNil)))) (rowsE 12))
  (sRet (e2 vIs (eMeth 0 m_House_told_by (e2 vIx (e2 vIx (eVar 0) (eC (.int 0))) (eVar 5)) (aCons (e2 vIx (e2 vIx (eVar 0) (eC (.int 1))) (eVar 12)) (aCons (eMeth 0 m_House_heard (e2 vIx (e2 vIx (eVar 0) (eC (.int 0))) (eVar 12)) aNil) (aNil)))) (eC .non)))) (sNil))
  (sRet (eCall m_law_forget (aCons (eVar 0) (aCons (eVar 1) (aCons (eVar 2) (aCons (eVar 5) (aNil))))))))))))))) := rfl
section
variable {D : Loci} {h h' : HM} {W : Wo} {i j k : Nat} {a : Act} {E : List (Mk × Fl)} {T : Nat → List Tl} {d : List (Mk × Nat)} {R : Nat → Nat → List (Mk × KB)} {od : Nat} {ks : List (Int × Mk)} {ns : List Int} {N v : Nat} {w : Mk} {F : Fl}
theorem at_turn31 (I : Inv31 ns h W T d R od ks N v) (hv : v ≤ 19) (hN : N ≤ 890) (c : Int) :
    ∃ W' h' T' d' R' ks', m_law_turn_v3 [stV DD W.m W.num, .ref 16, .ref od, .int c] h = .ok (.bl true) h' ∧ Inv31 ns h' W' T' d' R' od ks' (N + 1) (v + 1) := by
  have O := I.O
  have hm := I.m
  have lv := I.v
  have lA := O.ln
  have k1 : ∀ h, m_law_mix [.int c, .int 9787, .int 9] h = .ok (.int (mix c 9787 9)) h := fun h => at_mix (by decide) (by decide)
  obtain ⟨i, j, hi, hj, hne, ez1, ez2⟩ := two_of3 (c := c) (m := 3) (by omega) (p := 9781) (q := 9767) (by decide) (by decide)
  have ez1 : mix c 9781 3 = (i : Nat) := ez1
  have ez2 : ∀ h : HM, vMod (.int ((i : Int) + 1 + mix c 9767 2)) (.int 3) h = .ok (.int (j : Nat)) h := ez2
  have k2 : ∀ h, m_law_mix [.int c, .int 9781, .int 3] h = .ok (.int (i : Nat)) h := fun h => by rw [at_mix (by decide) (by decide), ez1]
  have k3 : ∀ h, m_law_mix [.int c, .int 9767, .int 2] h = .ok (.int (mix c 9767 2)) h := fun h => at_mix (by decide) (by decide)
  have im : i < W.m := by omega
  have jm : j < W.m := by omega
  obtain ⟨g1, ef⟩ := at_filesW O I.H (by omega) im
  have I1 : Inv31 ns (h ++ g1) W T d R od ks N v := I.app
  clear I
  generalize h ++ g1 = h1 at *
  have lE := (O.sh i im).len (O.cl i im)
  have st1 : ∀ h, vIx (stV DD W.m W.num) (.int 1) h = .ok (.lst ((List.range W.m).map fun i => .int (W.num i))) h := fun h => rfl
  have st0 : ∀ h, vIx (stV DD W.m W.num) (.int 0) h = .ok (.ref DD.hs) h := fun h => rfl
  have nmj : ∀ h, vIx (.lst ((List.range W.m).map fun i => .int (W.num i))) (.int (j : Nat)) h = .ok (.int (W.num j)) h := fun h => ix_rangeL jm
  obtain ⟨V, hV⟩ : ∃ V, V = (srt ((W.E i).map (·.1))).filter fun w => !deadE (W.E i) w := ⟨_, rfl⟩
  have vin : ∀ w ∈ V, ∃ F, getM (W.E i) w = some F ∧ F.texts ≠ [] := fun w hw => by
    rw [hV] at hw
    obtain ⟨hw1, hw2⟩ := List.mem_filter.mp hw
    obtain ⟨F, hF⟩ := srt_get hw1
    refine ⟨F, hF, ?_⟩
    simp only [deadE, hF, Bool.not_eq_true', decide_eq_false_iff_not] at hw2
    exact hw2
  have lcV : lcL (srcItems ((srt ((W.E i).map (·.1))).map (fileV2 (W.E i)))) (gNm 7) (tTru (e2 vIx (eVar 7) (eC (.int 4)))) (e2 vIx (eVar 7) (eC (.int 0))) [some (stV DD W.m W.num), some (.ref 16), some (.ref od), some (.int c), some (.int (mix c 9787 9)), some (.int (i : Nat)), none, none, none, none, none, none, none] (srcItems ((srt ((W.E i).map (·.1))).map (fileV2 (W.E i)))).len 0 h1 [] = .ok (V.map eM) h1 := by
    rw [hV]
    refine lc_lives eM (by omega) fun w F e => ⟨[some (stV DD W.m W.num), some (.ref 16), some (.ref od), some (.int c), some (.int (mix c 9787 9)), some (.int (i : Nat)), none, some (eB (F, false)), none, none, none, none, none], rfl, ?_, ?_⟩
    · have x4 : ∀ h, vIx (eB (F, false)) (.int 4) h = .ok (.tup (F.texts.map eW)) h := fun h => rfl
      simp only [ev_tTru, ev_e2, ev_VarS, ev_Var0, ev_C, Res.bind_ok, x4, tru_texts]
    · have x0 : ∀ h, vIx (eB (F, false)) (.int 0) h = .ok (eM w) h := fun h => by rw [← ((O.sh i im).ok w F e).2.1.id]; rfl
      simp only [ev_e2, ev_VarS, ev_Var0, ev_C, Res.bind_ok, x0]
  clear hV
  generalize srt ((W.E i).map (·.1)) = K at *
  have sr : ∀ (x : List Val) h, srcOf (.lst x) h = .ok (srcItems x) h := fun _ _ => rfl
  have vtr : ∀ h, truV (.lst (V.map eM)) h = .ok (!decide (V = [])) h := fun h => by cases V <;> rfl
  obtain ⟨kd, hkd⟩ : ∃ kd, kd = mix c 9787 9 := ⟨_, rfl⟩
  rw [← hkd] at k1 lcV
  have lt2 : ∀ h : HM, vLt (.int kd) (.int 2) h = .ok (.bl (decide (kd < 2))) h := fun h => by rw [ev_ltI]
  have lt6 : ∀ h : HM, vLt (.int kd) (.int 6) h = .ok (.bl (decide (kd < 6))) h := fun h => by rw [ev_ltI]
  have lt8 : ∀ h : HM, vLt (.int kd) (.int 8) h = .ok (.bl (decide (kd < 8))) h := fun h => by rw [ev_ltI]
  have eq2 : ∀ h : HM, vEq (.int kd) (.int 2) h = .ok (.bl (decide (kd = 2))) h := fun h => by rw [ev_eqI]
  have tst : tOrM (tOf (e2 vLt (eVar 4) (eC (.int 2)))) (tAndM (tOf (e2 vEq (eVar 4) (eC (.int 2)))) (tNotM (tTru (eVar 6)))) [some (stV DD W.m W.num), some (.ref 16), some (.ref od), some (.int c), some (.int kd), some (.int (i : Nat)), some (.lst (V.map eM)), none, none, none, none, none, none] h1 = .ok (decide (kd < 2 ∨ (kd = 2 ∧ V = []))) h1 := by
    by_cases q : kd < 2
    · rw [decide_eq_true (p := kd < 2 ∨ (kd = 2 ∧ V = [])) (.inl q)]
      simp only [ev_tOr, ev_tOf, ev_e2, ev_VarS, ev_Var0, ev_C, Res.bind_ok, lt2, decide_eq_true q, ev_toB, if_true]
    · by_cases q2 : kd = 2
      · have : decide (kd < 2 ∨ (kd = 2 ∧ V = [])) = decide (V = []) := by
          rw [decide_eq_decide]
          constructor
          · rintro (z | z)
            · exact absurd z q
            · exact z.2
          · exact fun z => .inr ⟨q2, z⟩
        rw [this]
        simp only [ev_tOr, ev_tOf, ev_e2, ev_VarS, ev_Var0, ev_C, Res.bind_ok, lt2, decide_eq_false q, ev_toB, Bool.false_eq_true, if_false, ev_tAnd, eq2, decide_eq_true q2, if_true, ev_tNot, ev_tTru, vtr, Bool.not_not]
      · rw [decide_eq_false (p := kd < 2 ∨ (kd = 2 ∧ V = [])) (fun z => by rcases z with z | z; exact q z; exact q2 z.1)]
        simp only [ev_tOr, ev_tOf, ev_e2, ev_VarS, ev_Var0, ev_C, Res.bind_ok, lt2, decide_eq_false q, ev_toB, Bool.false_eq_true, if_false, ev_tAnd, eq2, decide_eq_false q2]
  by_cases hd : kd < 2 ∨ (kd = 2 ∧ V = [])
  · rw [decide_eq_true hd] at tst
    obtain ⟨W', h', e, I'⟩ := at_deed31 I1 (by omega) c
    refine ⟨W', h', T, d, R, ks, ?_, I'.up (by omega) (Nat.le_refl _)⟩
    generalize stV DD W.m W.num = st at *
    rw [turn31_eq]
    unfold mF
    simp only [List.map_cons, List.map_nil, List.cons_append, List.nil_append, List.length_cons, List.length_nil, List.replicate, Nat.reduceAdd, Nat.reduceSub]
    simp only [ev_sSeq, ev_sAsg, ev_eCall, ev_aCons, ev_aNil, ev_VarS, ev_Var0, ev_C, Res.bind_ok, k1, k2, Res.thn_ok, ev_gNmS, ev_gNm0, Option.map_some, ev_eLc, ev_iVal, ef, sr, wipeL, List.set, lcV, ev_frozen, ev_sIf, tst, if_true, ev_sRet, e]
  · rw [decide_eq_false hd] at tst
    by_cases q2 : kd = 2
    · have hV0 : V ≠ [] := fun z => hd (.inr ⟨q2, z⟩)
      obtain ⟨W', h', e, I'⟩ := at_dropM I1 (by omega) im c hV0 vin (some (.ref 16)) (some (.ref od)) (some (.int kd))
      refine ⟨W', h', T, d, R, ks, ?_, I'.up (by omega) (Nat.le_refl _)⟩
      have eq2 : ∀ h : HM, vEq (.int kd) (.int 2) h = .ok (.bl true) h := fun h => by rw [eq2, decide_eq_true q2]
      generalize stV DD W.m W.num = st at *
      rw [turn31_eq]
      unfold mF
      simp only [List.map_cons, List.map_nil, List.cons_append, List.nil_append, List.length_cons, List.length_nil, List.replicate, Nat.reduceAdd, Nat.reduceSub]
      simp only [ev_sSeq, ev_sAsg, ev_eCall, ev_aCons, ev_aNil, ev_VarS, ev_Var0, ev_C, Res.bind_ok, k1, k2, Res.thn_ok, ev_gNmS, ev_gNm0, Option.map_some, ev_eLc, ev_iVal, ef, sr, wipeL, List.set, lcV, ev_frozen, ev_sIf, tst, Bool.false_eq_true, if_false, ev_sNil, ev_tOf, ev_e2, eq2, ev_toB, if_true, e]
    · have eq2 : ∀ h : HM, vEq (.int kd) (.int 2) h = .ok (.bl false) h := fun h => by rw [eq2, decide_eq_false q2]
      by_cases q6 : kd < 6
      · obtain ⟨W', h', e, I'⟩ := at_led31 I1 (by omega) c
        refine ⟨W', h', T, d, R, ks, ?_, I'.up (by omega) (by omega)⟩
        have lt6 : ∀ h : HM, vLt (.int kd) (.int 6) h = .ok (.bl true) h := fun h => by rw [lt6, decide_eq_true q6]
        generalize stV DD W.m W.num = st at *
        rw [turn31_eq]
        unfold mF
        simp only [List.map_cons, List.map_nil, List.cons_append, List.nil_append, List.length_cons, List.length_nil, List.replicate, Nat.reduceAdd, Nat.reduceSub]
        simp only [ev_sSeq, ev_sAsg, ev_eCall, ev_aCons, ev_aNil, ev_VarS, ev_Var0, ev_C, Res.bind_ok, k1, k2, Res.thn_ok, ev_gNmS, ev_gNm0, Option.map_some, ev_eLc, ev_iVal, ef, sr, wipeL, List.set, lcV, ev_frozen, ev_sIf, tst, Bool.false_eq_true, if_false, ev_sNil, ev_tOf, ev_e2, eq2, lt6, ev_toB, if_true, ev_sRet, e]
      · have lt6 : ∀ h : HM, vLt (.int kd) (.int 6) h = .ok (.bl false) h := fun h => by rw [lt6, decide_eq_false q6]
        have ad1 : ∀ (x y : Int) (h : HM), vAdd (.int x) (.int y) h = .ok (.int (x + y)) h := fun x y h => by simp
        by_cases q8 : kd < 8
        · have lt8 : ∀ h : HM, vLt (.int kd) (.int 8) h = .ok (.bl true) h := fun h => by rw [lt8, decide_eq_true q8]
          obtain ⟨h2, h3, h4, ad, vh, T', d', R', z1, z2, z3, z4, z5, z6, z7, z8, I'⟩ := tell_told I1 (by omega) (by omega) hi hj hne.symm
          refine ⟨W, h4, T', d', R', ks, ?_, I'.up (by omega) (by omega)⟩
          have z1 := z1 12 [some (stV DD W.m W.num), some (.ref 16), some (.ref od), some (.int c), some (.int kd), some (.int (i : Nat)), some (.lst (V.map eM)), none, none, none, none, none, some (.int (j : Nat))] (fun h => rfl) (fun h => rfl) (fun x => ⟨_, rfl, fun h => rfl⟩)
          generalize stV DD W.m W.num = st at *
          have mt : ∀ h, mkTup [.int (i : Nat), .int (j : Nat)] h = .ok (eM ((i : Int), (j : Int))) h := fun h => ev_mkTup (by simp)
          have isn : ∀ h : HM, vIs .non .non h = .ok (.bl true) h := fun h => rfl
          rw [turn31_eq]
          unfold mF
          simp only [List.map_cons, List.map_nil, List.cons_append, List.nil_append, List.length_cons, List.length_nil, List.replicate, Nat.reduceAdd, Nat.reduceSub]
          simp only [ev_sSeq, ev_sAsg, ev_eCall, ev_aCons, ev_aNil, ev_VarS, ev_Var0, ev_C, Res.bind_ok, k1, k2, Res.thn_ok, ev_gNmS, ev_gNm0, Option.map_some, ev_eLc, ev_iVal, ef, sr, wipeL, List.set, lcV, ev_frozen, ev_sIf, tst, Bool.false_eq_true, if_false, ev_sNil, ev_tOf, ev_e2, eq2, lt6, lt8, ev_toB, if_true, ad1, k3, ez2, ev_sSub, z1, ev_eDisp, mt, z2, ev_sRet, ev_eMeth, st0, st1, nmj, z5, z6, z7, z8, z3, z4, isn]
        · have lt8 : ∀ h : HM, vLt (.int kd) (.int 8) h = .ok (.bl false) h := fun h => by rw [lt8, decide_eq_false q8]
          obtain ⟨W', h', ks', e, I'⟩ := at_forget31 I1 (by omega) (by omega) hi
          refine ⟨W', h', T, d, R, ks', ?_, I'.up (by omega) (by omega)⟩
          generalize stV DD W.m W.num = st at *
          rw [turn31_eq]
          unfold mF
          simp only [List.map_cons, List.map_nil, List.cons_append, List.nil_append, List.length_cons, List.length_nil, List.replicate, Nat.reduceAdd, Nat.reduceSub]
          simp only [ev_sSeq, ev_sAsg, ev_eCall, ev_aCons, ev_aNil, ev_VarS, ev_Var0, ev_C, Res.bind_ok, k1, k2, Res.thn_ok, ev_gNmS, ev_gNm0, Option.map_some, ev_eLc, ev_iVal, ef, sr, wipeL, List.set, lcV, ev_frozen, ev_sIf, tst, Bool.false_eq_true, if_false, ev_sNil, ev_tOf, ev_e2, eq2, lt6, lt8, ev_toB, if_true, ad1, k3, ez2, ev_sRet, e]
theorem ev_iKeysQ {m : EM} {l : Loc} {h : HM} : iKeysQ m l h = (m l h).bind keysSrcQ := rfl
theorem in_marks {L : List Mk} (hn : w ∉ L) : vIn (eM w) (.tup (L.map eM)) h = .ok (.bl false) h :=
  (vIn_tup (α := Mk) (a := w) (xs := L) (v := .tup (L.map eM)) (h := h) rfl ⟨trivial, trivial⟩ fun x _ => ⟨trivial, trivial⟩).trans (by congr 2; simp [hn])
theorem at_isout (I : Inv31 ns h W T d R od ks N v) (hv : v ≤ 20) :
    ∃ g, m_law_is_out [stV DD W.m W.num, .ref od] h = .ok (.bl true) (h ++ g) := by
  have O := I.O
  have hm := I.m
  have lv := I.v
  have lA := O.ln
  have P := I.P
  have H := I.H
  have oo : Out DD W.m od := by rw [hm]; exact far_out (.inl (Nat.le_of_lt I.X.od16))
  have ho := I.X.ho
  have odlt : od < h.length := (List.getElem?_eq_some_iff.mp ho).1
  have st0 : ∀ h, vIx (stV DD W.m W.num) (.int 0) h = .ok (.ref DD.hs) h := fun h => rfl
  -- all is right
  have len3 : (intsV 0 3).length = 3 := by simp [intsV]
  have rt : ∀ a3 a4 : Option Val, ∃ g, lcL (srcItems (intsV 0 3)) (gNm 2) tYesM (eCall m_law_is_right_v2 (aCons (eVar 0) (aCons (eVar 2) (aNil)))) [some (stV DD W.m W.num), some (.ref od), none, a3, a4] (srcItems (intsV 0 3)).len 0 h [] = .ok ((List.range 3).map fun _ => .bl true) (h ++ g) := fun a3 a4 => by
    obtain ⟨ys, h', e, ⟨g, rfl⟩, rfl⟩ := lc_inv (xs := intsV 0 3) (g := gNm 2) (te := eCall m_law_is_right_v2 (aCons (eVar 0) (aCons (eVar 2) (aNil)))) (l := [some (stV DD W.m W.num), some (.ref od), none, a3, a4]) (h := h)
      (fun i acc h' => (∃ g, h' = h ++ g) ∧ acc = (List.range i).map fun _ => .bl true) ⟨⟨[], by simp⟩, by simp⟩ (by
      rintro i x acc h' hx ⟨⟨g, rfl⟩, rfl⟩
      obtain ⟨hi, rfl⟩ := intsV_get hx
      obtain ⟨g2, e2⟩ := at_rightW O (H.app (g := g)) (by omega) (i := i) (by omega)
      refine ⟨[some (stV DD W.m W.num), some (.ref od), some (.int (0 + (i : Int))), a3, a4], .bl true, h ++ g ++ g2, rfl, ?_, ⟨g ++ g2, by simp⟩, by rw [List.range_succ, List.map_append]; rfl⟩
      rw [Int.zero_add]
      generalize stV DD W.m W.num = st at *
      simp only [ev_eCall, ev_aCons, ev_aNil, ev_VarS, ev_Var0, Res.bind_ok, e2]) (by rw [sizeLine_eq]; simp [intsV])
    rw [len3] at e
    exact ⟨g, e⟩
  have lW : ∀ a3 a4 : Option Val, ∀ x2 : Option Val, wipeL [some (stV DD W.m W.num), some (.ref od), x2, a3, a4] [2] = [some (stV DD W.m W.num), some (.ref od), none, a3, a4] := fun _ _ _ => rfl
  -- the walk
  obtain ⟨hL, hhL⟩ : ∃ hL, hL = h.set od (.lQ ks) := ⟨_, rfl⟩
  have fr : ∀ q, q ≠ od → hL[q]? = h[q]? := fun q hq => by rw [hhL]; exact List.getElem?_set_ne (Ne.symm hq)
  have oL : hL[od]? = some (.lQ ks) := by rw [hhL]; exact List.getElem?_set_self odlt
  have back : hL.set od (.dQ ks) = h := by rw [hhL, List.set_set, set_same ho]
  have HL : ∀ k, k < W.m → HE hL (DD.ha k) (W.num k) (W.ct k) (W.E k) := fun k hk => by
    rw [hhL]; exact (H.hh k hk).set (oo.ha k hk).1 (oo.ha k hk).2
  have hsL : hL[DD.hs]? = some (.lst ((List.range W.m).map fun i => .ref (DD.ha i))) := by rw [fr _ oo.hs.symm]; exact H.hs
  have sL := srcOf_ref hsL
  obtain ⟨l', h', el, rfl, a2, a3, a4, rfl⟩ := for_inv (xs := ks.map eKQ) (g := gTp 2 (gsCons (gNm 2) (gsCons (gNm 3) (gsNil)))) (b := m_law_is_out_f0) (l := [some (stV DD W.m W.num), some (.ref od), none, none, none]) (h := hL)
    (fun r l' h' => h' = hL ∧ ∃ a2 a3 a4, l' = [some (stV DD W.m W.num), some (.ref od), a2, a3, a4]) ⟨rfl, none, none, none, rfl⟩ (by
    rintro r x l' h' hx ⟨rfl, a2, a3, a4, rfl⟩
    obtain ⟨p, hp, rfl⟩ : ∃ p, ks[r]? = some p ∧ x = eKQ p := by
      rw [List.getElem?_map, Option.map_eq_some_iff] at hx
      obtain ⟨j, h1, h2⟩ := hx
      exact ⟨j, h1, h2.symm⟩
    obtain ⟨c, w⟩ := p
    obtain ⟨k, hk, rfl, out, hn⟩ := P.ks c w (List.mem_of_getElem? hp)
    have km : k < W.m := by omega
    have ids : ∀ q, q < W.m → m_House_ids [.ref (DD.ha q)] h' = .ok (.tup (((srt ((W.E q).map (·.1))).filter fun w => !deadE (W.E q) w).map eM)) h' := fun q hq => he_ids (HL q hq) (by have := (O.sh q hq).len (O.cl q hq); omega)
    have nin : ∀ q, q < W.m → w ∉ (srt ((W.E q).map (·.1))).filter fun w => !deadE (W.E q) w := fun q hq z => by
      obtain ⟨z1, z2⟩ := List.mem_filter.mp z
      obtain ⟨F, hF⟩ := srt_get z1
      simp only [deadE, hF, Bool.not_eq_true', decide_eq_false_iff_not] at z2
      exact O.live_in hq hF z2 out
    have gon := he_gone (HL k km) (by have := (O.sh k km).len (O.cl k km); omega)
    have gin : w ∉ (srt ((W.E k).map (·.1))).filter fun w => deadE (W.E k) w := fun z => by
      obtain ⟨z1, z2⟩ := List.mem_filter.mp z
      obtain ⟨F, hF⟩ := srt_get z1
      obtain ⟨⟨a, ha, haw⟩, _⟩ := (O.sh k km).ok w F hF
      exact hn a ha haw
    have isk := (HL k km).isI
    have ixk := ix_range hsL km
    have lc : lcL (srcRef DD.hs ((List.range W.m).map fun i => Val.ref (DD.ha i)).length) (gNm 4) tYesM (e2 vIn (eVar 3) (eMeth 0 m_House_ids (eVar 4) aNil)) [some (stV DD W.m W.num), some (.ref od), some (.int (k : Nat)), some (eM w), none] (srcRef DD.hs ((List.range W.m).map fun i => Val.ref (DD.ha i)).length).len 0 h' [] = .ok ((List.range W.m).map fun _ => .bl false) h' :=
      lc_ref (fun _ => .bl false) hsL (fun q hq => ⟨[some (stV DD W.m W.num), some (.ref od), some (.int (k : Nat)), some (eM w), some (.ref (DD.ha q))], rfl, by
        have hq := List.mem_range.mp hq
        have iq := (HL q hq).isI
        simp only [ev_e2, ev_eMeth, ev_VarS, ev_Var0, Res.bind_ok, iq, if_true, ev_aNil, ids q hq, in_marks (nin q hq)]⟩) (by simp; omega)
    have any : ∀ h, bAny [.lst ((List.range W.m).map fun _ => Val.bl false)] h = .ok (.bl false) h := fun h => by
      rw [any_ok (xs := List.range W.m) (f := fun _ => false)]
      congr 2
      rw [List.any_eq_false]
      exact fun _ _ => by simp
    refine ⟨[some (stV DD W.m W.num), some (.ref od), some (.int (k : Nat)), some (eM w), a4], [some (stV DD W.m W.num), some (.ref od), some (.int (k : Nat)), some (eM w), a4], h', rfl, ?_, rfl, _, _, _, rfl⟩
    generalize stV DD W.m W.num = st at *
    unfold m_law_is_out_f0
    simp only [ev_sIf, ev_tOr, ev_tTru, ev_eBi, ev_aCons, ev_aNil, ev_eLc, ev_iVal, ev_e2, ev_VarS, ev_Var0, ev_C, Res.bind_ok, st0, sL, wipeL, List.set, lc, ev_frozen, any, ev_truB, Bool.false_eq_true, if_false, ev_tOf, ev_eMeth, ixk, isk, if_true, gon, in_marks gin, ev_toB, Res.thn_ok, ev_sNil])
  obtain ⟨g, e⟩ := rt a3 a4
  refine ⟨g, ?_⟩
  clear rt
  have r3 : ∀ h, rng1 [.int 3] h = .ok (srcItems (intsV 0 3)) h := fun h => ev_rng1 (by omega)
  have kq : keysSrcQ (.ref od) h' = .ok (srcItems (ks.map eKQ)) h' := by simp only [keysSrcQ, oL]
  have al : ∀ h, bAll [.lst ((List.range 3).map fun _ => Val.bl true)] h = .ok (.bl true) h := fun h => by
    have := all_ok (xs := List.range 3) (f := fun _ => true) (h := h)
    rw [this, List.all_eq_true.mpr fun _ _ => rfl]
  generalize stV DD W.m W.num = st at *
  unfold m_law_is_out mF
  simp only [List.map_cons, List.map_nil, List.cons_append, List.nil_append, List.length_cons, List.length_nil, List.replicate, Nat.reduceAdd, Nat.reduceSub]
  simp only [ev_sSeq, ev_sLock, ev_VarS, ev_Var0, ho, lockO, ← hhL, ev_sFor, ev_iKeysQ, Res.bind_ok, kq, Res.thn_ok, el, back, ev_sRet, ev_eBi, ev_aCons, ev_aNil, ev_eLc, ev_iArgs, ev_C, r3, lW, e, ev_frozen, al]
end
end
end MM
namespace MM
open PySem L2 PySem.W
noncomputable section
def m_law_all_told_f3 : SM := sSeq (sIf (tOrM (tTru (e2 vIx (eVar 7) (eC (.int 4)))) (tOf (e2 vIn (e2 vIx (eVar 7) (eC (.int 0))) (eVar 5)))) (sDrop (eCall m_law_tell (aCons (eVar 0) (aCons (eVar 3) (aCons (eVar 4) (aCons (e2 vIx (eVar 7) (eC (.int 0))) (aNil))))))) (sNil))
  (sDrop (eMeth 0 m_House_lead_on (e2 vIx (e2 vIx (eVar 0) (eC (.int 0))) (eVar 3)) (aCons (eMeth 0 m_House_file (e2 vIx (e2 vIx (eVar 0) (eC (.int 0))) (eVar 4)) (aCons (e2 vIx (eVar 7) (eC (.int 0))) (aNil))) (aNil))))
def m_law_all_told_f2 : SM := sSeq (sLock (e2 vIx (e2 vIx (eVar 0) (eC (.int 4))) (eVar 3)) (sAsg (eLc (iKeysA (e2 vIx (e2 vIx (eVar 0) (eC (.int 4))) (eVar 3))) (gNm 6) (tYesM) (e2 vIx (e2 vIx (e2 vIx (eVar 0) (eC (.int 3))) (eVar 6)) (eC (.int 0))) [6] frozen) (gNm 5)))
  (sFor (iVal (eCall m_law_files (aCons (eVar 0) (aCons (eVar 4) (aNil))))) (gNm 7) m_law_all_told_f3)
def m_law_all_told_f1 : SM := sFor (iArgs rng1 (aCons (eC (.int 3)) (aNil))) (gNm 4) m_law_all_told_f2
def m_law_all_told_f0 : SM := sFor (iArgs rng1 (aCons (eC (.int 3)) (aNil))) (gNm 3) m_law_all_told_f1
def m_law_all_told_f5 : SM := sSeq (sSub (eVar 1) (eDisp mkTup (aCons (eVar 3) (aCons (eVar 4) (aNil)))) (eBi bDictT (aCons (eLc (iVal (eCall m_law_files (aCons (eVar 0) (aCons (eVar 4) (aNil))))) (gNm 7) (tYesM) (eDisp mkTup (aCons (e2 vIx (eVar 7) (eC (.int 0))) (aCons (e2 vIx (eVar 7) (eC (.int 2))) (aNil)))) [7] frozen) (aNil))))
  (sDrop (eMeth 0 m_House_told_by (e2 vIx (e2 vIx (eVar 0) (eC (.int 0))) (eVar 3)) (aCons (e2 vIx (e2 vIx (eVar 0) (eC (.int 1))) (eVar 4)) (aCons (eMeth 0 m_House_heard (e2 vIx (e2 vIx (eVar 0) (eC (.int 0))) (eVar 4)) aNil) (aNil)))))
def m_law_all_told_f4 : SM := sFor (iVal (eLc (iArgs rng1 (aCons (eC (.int 3)) (aNil))) (gNm 8) (tOf (e2 vNe (eVar 8) (eVar 3))) (eVar 8) [8] frozen)) (gNm 4) m_law_all_told_f5
def m_law_all_told : FM := mF 9 (sSeq (sFor (iArgs rng1 (aCons (eC (.int 2)) (aNil))) (gNm 2) m_law_all_told_f0)
  (sFor (iArgs rng1 (aCons (eC (.int 3)) (aNil))) (gNm 3) m_law_all_told_f4))
theorem told_f5_eq : m_law_all_told_f5 = sSeq (sSub (eVar 1) (eDisp mkTup (aCons (eVar 3) (aCons (eVar 4) (aNil)))) (rowsE 4))
  (sDrop (eMeth 0 m_House_told_by (e2 vIx (e2 vIx (eVar 0) (eC (.int 0))) (eVar 3)) (aCons (e2 vIx (e2 vIx (eVar 0) (eC (.int 1))) (eVar 4)) (aCons (eMeth 0 m_House_heard (e2 vIx (e2 vIx (eVar 0) (eC (.int 0))) (eVar 4)) aNil) (aNil))))) := rfl
section
variable {D : Loci} {h h' : HM} {W : Wo} {gi to i j k : Nat} {a : Act} {E : List (Mk × Fl)} {T : Nat → List Tl} {d : List (Mk × Nat)} {R : Nat → Nat → List (Mk × KB)} {od : Nat} {ks : List (Int × Mk)} {ns : List Int} {N v : Nat} {w : Mk} {F : Fl}
def St31 (ns : List Int) : Val := stV DD 3 (num0 ns)
theorem Inv31.st (I : Inv31 ns h W T d R od ks N v) : stV DD W.m W.num = St31 ns := by rw [I.m, I.num]; rfl
theorem st31_0 : vIx (St31 ns) (.int 0) h = .ok (.ref DD.hs) h := rfl
theorem st31_1 : vIx (St31 ns) (.int 1) h = .ok (.lst ((List.range 3).map fun i => .int (num0 ns i))) h := rfl
theorem st31_3 : vIx (St31 ns) (.int 3) h = .ok (.ref DD.as) h := rfl
theorem st31_4 : vIx (St31 ns) (.int 4) h = .ok (.ref DD.bs) h := rfl
theorem in_lstT {L : List Mk} (hn : w ∈ L) : vIn (eM w) (.lst (L.map eM)) h = .ok (.bl true) h :=
  (vIn_lst (α := Mk) (a := w) (xs := L) (h := h) (show Enc.ok w from ⟨trivial, trivial⟩) fun x _ => show Enc.ok x from ⟨trivial, trivial⟩).trans (by congr 2; simp [hn])
theorem in_lstF {L : List Mk} (hn : w ∉ L) : vIn (eM w) (.lst (L.map eM)) h = .ok (.bl false) h :=
  (vIn_lst (α := Mk) (a := w) (xs := L) (h := h) (show Enc.ok w from ⟨trivial, trivial⟩) fun x _ => show Enc.ok x from ⟨trivial, trivial⟩).trans (by congr 2; simp [hn])
/-- one tells another one all that it has -/
theorem told_f2 (I : Inv31 ns h W T d R od ks N v) (hv : v ≤ 20) (hg : gi < 3) (ht : to < 3) (a2 a5 a6 a7 a8 : Option Val) :
    ∃ W' h' b5 b6 b7, m_law_all_told_f2 [some (St31 ns), some (.ref 16), a2, some (.int (to : Nat)), some (.int (gi : Nat)), a5, a6, a7, a8] h = .nx [some (St31 ns), some (.ref 16), a2, some (.int (to : Nat)), some (.int (gi : Nat)), b5, b6, b7, a8] h' ∧ Inv31 ns h' W' T d R od ks N v := by
  have O := I.O
  have hm := I.m
  have lv := I.v
  have lA := O.ln
  have H := I.H
  have gm : gi < W.m := by omega
  have tm : to < W.m := by omega
  have lS := (O.cl to tm).len O.ok
  -- what it has
  have bk := H.bk to tm
  obtain ⟨x1, x2, x3, x4⟩ := H.sp.ba to tm
  have bklt : DD.ba to < h.length := (List.getElem?_eq_some_iff.mp bk).1
  have hL : (h.set (DD.ba to) (.lK (kvB (W.S to))))[DD.ba to]? = some (.lK (kvB (W.S to))) := List.getElem?_set_self bklt
  have asL : (h.set (DD.ba to) (.lK (kvB (W.S to))))[DD.as]? = some (.lst W.V) := by rw [List.getElem?_set_ne x3]; exact H.as
  have bsL : (h.set (DD.ba to) (.lK (kvB (W.S to))))[DD.bs]? = some (.lst ((List.range W.m).map fun i => .ref (DD.ba i))) := by rw [List.getElem?_set_ne x4]; exact H.bs
  have back : (h.set (DD.ba to) (.lK (kvB (W.S to)))).set (DD.ba to) (.dK (kvB (W.S to))) = h := by rw [List.set_set, set_same bk]
  have kL : keysSrc (.ref (DD.ba to)) (h.set (DD.ba to) (.lK (kvB (W.S to)))) = .ok (srcItems ((W.S to).map (Val.int ∘ idxI))) (h.set (DD.ba to) (.lK (kvB (W.S to)))) := by
    simp only [keysSrc, hL, kvB_keys, List.map_map]
  have x00 : ∀ (b : Act) h, vIx (eAct b) (.int 0) h = .ok (eM b.which) h := fun _ _ => rfl
  have bi := ix_range H.bs tm
  have biL := ix_range bsL tm
  have lc1 : lcL (srcItems ((W.S to).map (Val.int ∘ idxI))) (gNm 6) tYesM (e2 vIx (e2 vIx (e2 vIx (eVar 0) (eC (.int 3))) (eVar 6)) (eC (.int 0))) [some (St31 ns), some (.ref 16), a2, some (.int (to : Nat)), some (.int (gi : Nat)), a5, none, a7, a8] (srcItems ((W.S to).map (Val.int ∘ idxI))).len 0 (h.set (DD.ba to) (.lK (kvB (W.S to)))) [] = .ok ((W.S to).map fun a => eM a.which) (h.set (DD.ba to) (.lK (kvB (W.S to)))) :=
    lc_mapM (fun a : Act => eM a.which) (fun a ha => ⟨[some (St31 ns), some (.ref 16), a2, some (.int (to : Nat)), some (.int (gi : Nat)), a5, some (.int (idxI a)), a7, a8], rfl, by
      have ixa := ix_act O.ix asL ((O.cl to tm).sub a ha)
      simp only [ev_e2, ev_VarS, ev_Var0, ev_C, Res.bind_ok, st31_3, ixa, x00]⟩) (by rw [sizeLine_eq]; omega)
  obtain ⟨HV, hHV⟩ : ∃ HV, HV = (W.S to).map (·.which) := ⟨_, rfl⟩
  have hHVe : ((W.S to).map fun a => eM a.which) = HV.map eM := by rw [hHV, List.map_map]; rfl
  rw [hHVe] at lc1
  have inHV : ∀ w, w ∈ HV ↔ ∃ a ∈ W.S to, a.which = w := fun w => by rw [hHV, List.mem_map]
  -- the files
  obtain ⟨g1, ef⟩ := at_filesW O H (by omega) gm
  have I1 : Inv31 ns (h ++ g1) W T d R od ks N v := I.app
  have nd := srt_nd (O.sh gi gm).nd
  have fin : ∀ w ∈ srt ((W.E gi).map (·.1)), ∃ F, getM (W.E gi) w = some F := fun w hw => srt_get hw
  rw [I.st] at ef
  generalize srt ((W.E gi).map (·.1)) = K at *
  obtain ⟨l', h2, el, W', I', q1, q2, q3, b7, rfl⟩ := for_inv (xs := K.map (fileV2 (W.E gi))) (g := gNm 7) (b := m_law_all_told_f3) (l := [some (St31 ns), some (.ref 16), a2, some (.int (to : Nat)), some (.int (gi : Nat)), some (.lst (HV.map eM)), a6, a7, a8]) (h := h ++ g1)
    (fun r l' h' => ∃ W', Inv31 ns h' W' T d R od ks N v ∧ (∀ a ∈ W.S to, a ∈ W'.S to) ∧ (∀ a ∈ W'.S to, a ∈ W.S to ∨ a.which ∈ K.take r) ∧ (gi ≠ to → W'.E gi = W.E gi) ∧ ∃ a7, l' = [some (St31 ns), some (.ref 16), a2, some (.int (to : Nat)), some (.int (gi : Nat)), some (.lst (HV.map eM)), a6, a7, a8])
    ⟨W, I1, fun a ha => ha, fun a ha => .inl ha, fun _ => rfl, a7, rfl⟩ (by
    rintro r x l' h' hx ⟨W', I', q1, q2, q3, a7, rfl⟩
    obtain ⟨w, hw, rfl⟩ : ∃ w, K[r]? = some w ∧ x = fileV2 (W.E gi) w := by
      rw [List.getElem?_map, Option.map_eq_some_iff] at hx
      obtain ⟨j, h1, h2⟩ := hx
      exact ⟨j, h1, h2.symm⟩
    have tk : K.take (r + 1) = K.take r ++ [w] := by rw [List.take_add_one, hw]; rfl
    have wn : w ∉ K.take r := fun z => by
      have nd2 : (K.take r ++ [w]).Nodup := by rw [← tk]; exact nd.sublist (List.take_sublist _ _)
      exact (List.nodup_append.mp nd2).2.2 w z w (by simp) rfl
    obtain ⟨F, hF⟩ := fin w (List.mem_of_getElem? hw)
    obtain ⟨⟨c, hc, hcw⟩, L, _⟩ := (O.sh gi gm).ok w F hF
    have fv : fileV2 (W.E gi) w = eB (F, false) := by simp only [fileV2, hF]
    rw [fv]
    have i0 : ∀ h, vIx (eB (F, false)) (.int 0) h = .ok (eM w) h := fun h => by rw [← L.id]; rfl
    have i4 : ∀ h, vIx (eB (F, false)) (.int 4) h = .ok (.tup (F.texts.map eW)) h := fun h => rfl
    have O' := I'.O
    have hm' := I'.m
    have lv' := I'.v
    have lA' := O'.ln
    have st' := I'.st
    have hs' := ix_range I'.H.hs (i := to) (by omega)
    have hg' := ix_range I'.H.hs (i := gi) (by omega)
    have ist := (I'.H.hh to (by omega)).isI
    have isg := (I'.H.hh gi (by omega)).isI
    by_cases cc : F.texts ≠ [] ∨ w ∈ HV
    · obtain ⟨F', hF', hc'⟩ : ∃ F', getM (W'.E gi) w = some F' ∧ (F'.texts ≠ [] ∨ ∃ a ∈ W'.S to, a.which = w) := by
        by_cases e : gi = to
        · subst e
          obtain ⟨F', hF'⟩ := (O'.sh gi (by omega)).all c (q1 c hc)
          rw [hcw] at hF'
          exact ⟨F', hF', .inr ⟨c, q1 c hc, hcw⟩⟩
        · refine ⟨F, by rw [q3 e]; exact hF, cc.imp id fun z => ?_⟩
          obtain ⟨a, ha, haw⟩ := (inHV w).mp z
          exact ⟨a, q1 a ha, haw⟩
      obtain ⟨h3, h4, E', b, z1, z2, z3, z4, z5, z6, z7, z8, z9, z10⟩ := lead_tell O' hm' I'.H (by omega) (gi := gi) (to := to) (by omega) (by omega) hF' hc'
      have mem := tellS_mem (w := w) O'.ok (O'.cl to (by omega)) (O'.cl gi (by omega))
      refine ⟨[some (St31 ns), some (.ref 16), a2, some (.int (to : Nat)), some (.int (gi : Nat)), some (.lst (HV.map eM)), a6, some (eB (F, false)), a8], [some (St31 ns), some (.ref 16), a2, some (.int (to : Nat)), some (.int (gi : Nat)), some (.lst (HV.map eM)), a6, some (eB (F, false)), a8], h4, rfl, ?_, _, I'.lead (by omega) (by omega) hF' hc' z8 z9 z10, fun a ha => ?_, fun a ha => ?_, fun e => ?_, some (eB (F, false)), rfl⟩
      · rw [st'] at z1
        have tst : tOrM (tTru (e2 vIx (eVar 7) (eC (.int 4)))) (tOf (e2 vIn (e2 vIx (eVar 7) (eC (.int 0))) (eVar 5))) [some (St31 ns), some (.ref 16), a2, some (.int (to : Nat)), some (.int (gi : Nat)), some (.lst (HV.map eM)), a6, some (eB (F, false)), a8] h' = .ok true h' := by
          by_cases z : F.texts = []
          · simp only [ev_tOr, ev_tTru, ev_e2, ev_VarS, ev_Var0, ev_C, Res.bind_ok, i4, tru_texts, decide_eq_true z, Bool.not_true, Bool.false_eq_true, if_false, ev_tOf, i0, in_lstT (cc.resolve_left fun q => q z), ev_toB]
          · simp only [ev_tOr, ev_tTru, ev_e2, ev_VarS, ev_Var0, ev_C, Res.bind_ok, i4, tru_texts, decide_eq_false z, Bool.not_false, if_true]
        unfold m_law_all_told_f3
        simp only [ev_sSeq, ev_sIf, tst, Res.thn_ok, if_true, ev_sDrop, ev_eCall, ev_aCons, ev_aNil, ev_VarS, ev_Var0, ev_e2, ev_C, Res.bind_ok, i0, z1, ev_eMeth, st31_0, z4, z5, z6, z7, z2, z3]
      · show a ∈ up W'.S to _ to
        rw [up_same]; exact (mem a).mpr (.inl (q1 a ha))
      · have ha : a ∈ up W'.S to (tellS (W'.S to) (W'.S gi) w) to := ha
        rw [up_same] at ha
        rw [tk]
        rcases (mem a).mp ha with ha | ha
        · exact (q2 a ha).imp id fun z => List.mem_append.mpr (.inl z)
        · exact .inr (by rw [ha.2]; simp)
      · show up W'.E to E' gi = _
        rw [up_ne e]; exact q3 e
    · have c1 : F.texts = [] := Classical.byContradiction fun z => cc (.inl z)
      have c2 : w ∉ HV := fun z => cc (.inr z)
      have hne : gi ≠ to := fun e => c2 ((inHV w).mpr ⟨c, e ▸ hc, hcw⟩)
      obtain ⟨b, z2, z3⟩ := lead_none O' I'.H (gi := gi) (to := to) (w := w) (F := F) (by omega) (by omega) (by rw [q3 hne]; exact hF) c1 (fun a ha e => by
        rcases q2 a ha with z | z
        · exact c2 ((inHV w).mpr ⟨a, z, e⟩)
        · exact wn (e ▸ z))
      refine ⟨[some (St31 ns), some (.ref 16), a2, some (.int (to : Nat)), some (.int (gi : Nat)), some (.lst (HV.map eM)), a6, some (eB (F, false)), a8], [some (St31 ns), some (.ref 16), a2, some (.int (to : Nat)), some (.int (gi : Nat)), some (.lst (HV.map eM)), a6, some (eB (F, false)), a8], h', rfl, ?_, W', I', q1, fun a ha => (q2 a ha).imp id fun z => by rw [tk]; exact List.mem_append.mpr (.inl z), q3, some (eB (F, false)), rfl⟩
      have tst : tOrM (tTru (e2 vIx (eVar 7) (eC (.int 4)))) (tOf (e2 vIn (e2 vIx (eVar 7) (eC (.int 0))) (eVar 5))) [some (St31 ns), some (.ref 16), a2, some (.int (to : Nat)), some (.int (gi : Nat)), some (.lst (HV.map eM)), a6, some (eB (F, false)), a8] h' = .ok false h' := by
        simp only [ev_tOr, ev_tTru, ev_e2, ev_VarS, ev_Var0, ev_C, Res.bind_ok, i4, tru_texts, decide_eq_true c1, Bool.not_true, Bool.false_eq_true, if_false, ev_tOf, i0, in_lstF c2, ev_toB]
      unfold m_law_all_told_f3
      simp only [ev_sSeq, ev_sIf, tst, Res.thn_ok, Bool.false_eq_true, if_false, ev_sNil, ev_sDrop, ev_aCons, ev_aNil, ev_VarS, ev_Var0, ev_e2, ev_C, Res.bind_ok, i0, ev_eMeth, st31_0, hs', hg', ist, isg, if_true, z2, z3])
  refine ⟨W', h2, some (.lst (HV.map eM)), a6, b7, ?_, I'⟩
  have sr : ∀ (x : List Val) h, srcOf (.lst x) h = .ok (srcItems x) h := fun _ _ => rfl
  unfold m_law_all_told_f2
  simp only [ev_sSeq, ev_sLock, ev_e2, ev_VarS, ev_Var0, ev_C, Res.bind_ok, st31_4, bi, bk, lockO, ev_sAsg, ev_eLc, ev_iKeysA, biL, kL, wipeL, List.set, lc1, ev_frozen, Res.thn_ok, ev_gNmS, ev_gNm0, Option.map_some, back, ev_sFor, ev_iVal, ev_eCall, ev_aCons, ev_aNil, ef, sr, el]
theorem told_f5 (I : Inv31 ns h W T d R od ks N v) (hv : v ≤ 20) (hN : N ≤ 900) (hi : i < 3) (hj : j < 3) (hne : j ≠ i) (a2 a5 a6 a7 a8 : Option Val) :
    ∃ h' T' d' R', m_law_all_told_f5 [some (St31 ns), some (.ref 16), a2, some (.int (i : Nat)), some (.int (j : Nat)), a5, a6, a7, a8] h = .nx [some (St31 ns), some (.ref 16), a2, some (.int (i : Nat)), some (.int (j : Nat)), a5, a6, a7, a8] h' ∧ Inv31 ns h' W T' d' R' od ks (N + 1) v := by
  have st := I.st
  have en := I.num
  obtain ⟨h2, h3, h4, ad, vh, T', d', R', z1, z2, z3, z4, z5, z6, z7, z8, I'⟩ := tell_told I (by omega) hN hi hj hne
  rw [st] at z1
  have z1 := z1 4 [some (St31 ns), some (.ref 16), a2, some (.int (i : Nat)), some (.int (j : Nat)), a5, a6, a7, a8] (fun h => rfl) (fun h => rfl) (fun x => ⟨_, rfl, fun h => rfl⟩)
  refine ⟨h4, T', d', R', ?_, I'⟩
  have mt : ∀ h, mkTup [.int (i : Nat), .int (j : Nat)] h = .ok (eM ((i : Int), (j : Int))) h := fun h => ev_mkTup (by simp)
  have nmj : ∀ h, vIx (.lst ((List.range 3).map fun i => .int (num0 ns i))) (.int (j : Nat)) h = .ok (.int (num0 ns j)) h := fun h => ix_rangeL hj
  rw [en] at z4
  rw [told_f5_eq]
  simp only [ev_sSeq, ev_sSub, z1, Res.thn_ok, ev_VarS, ev_Var0, ev_eDisp, ev_aCons, ev_aNil, Res.bind_ok, mt, z2, ev_sDrop, ev_eMeth, ev_e2, ev_C, st31_0, st31_1, nmj, z5, z6, z7, z8, if_true, z3, z4]
theorem at_alltold (I : Inv31 ns h W T d R od ks N v) (hv : v ≤ 20) (hN : N ≤ 880) :
    ∃ W' h' T' d' R', m_law_all_told [St31 ns, .ref 16] h = .ok .non h' ∧ Inv31 ns h' W' T' d' R' od ks (N + 9) v := by
  have r2 : ∀ h, rng1 [.int 2] h = .ok (srcItems (intsV 0 2)) h := fun h => ev_rng1 (by omega)
  have r3 : ∀ h, rng1 [.int 3] h = .ok (srcItems (intsV 0 3)) h := fun h => ev_rng1 (by omega)
  have i2 : (intsV 0 2).length = 2 := rfl
  have i3 : (intsV 0 3).length = 3 := rfl
  have F1 : ∀ {h W}, Inv31 ns h W T d R od ks N v → ∀ (to : Nat), to < 3 → ∀ a2 a4 a5 a6 a7 a8 : Option Val, ∃ W' h' b4 b5 b6 b7 b8, m_law_all_told_f1 [some (St31 ns), some (.ref 16), a2, some (.int (to : Nat)), a4, a5, a6, a7, a8] h = .nx [some (St31 ns), some (.ref 16), a2, some (.int (to : Nat)), b4, b5, b6, b7, b8] h' ∧ Inv31 ns h' W' T d R od ks N v := by
    intro h W I to ht a2 a4 a5 a6 a7 a8
    obtain ⟨l', h', e, W', b4, b5, b6, b7, b8, rfl, I'⟩ := for_inv (xs := intsV 0 3) (g := gNm 4) (b := m_law_all_told_f2) (l := [some (St31 ns), some (.ref 16), a2, some (.int (to : Nat)), a4, a5, a6, a7, a8]) (h := h)
      (fun r l' h' => ∃ W' b4 b5 b6 b7 b8, l' = [some (St31 ns), some (.ref 16), a2, some (.int (to : Nat)), b4, b5, b6, b7, b8] ∧ Inv31 ns h' W' T d R od ks N v) ⟨W, a4, a5, a6, a7, a8, rfl, I⟩ (by
      rintro r x l' h' hx ⟨W', b4, b5, b6, b7, b8, rfl, I'⟩
      obtain ⟨hr, rfl⟩ := intsV_get hx
      rw [Int.zero_add]
      obtain ⟨W2, h2, c5, c6, c7, e, I2⟩ := told_f2 (gi := r) (to := to) I' hv hr ht a2 b5 b6 b7 b8
      exact ⟨[some (St31 ns), some (.ref 16), a2, some (.int (to : Nat)), some (.int (r : Nat)), b5, b6, b7, b8], _, h2, rfl, e, W2, some (.int (r : Nat)), c5, c6, c7, b8, rfl, I2⟩)
    refine ⟨W', h', b4, b5, b6, b7, b8, ?_, I'⟩
    unfold m_law_all_told_f1
    simp only [ev_sFor, ev_iArgs, ev_aCons, ev_aNil, ev_C, Res.bind_ok, r3, Res.thn_ok, e]
  have F0 : ∀ {h W}, Inv31 ns h W T d R od ks N v → ∀ a2 a3 a4 a5 a6 a7 a8 : Option Val, ∃ W' h' b3 b4 b5 b6 b7 b8, m_law_all_told_f0 [some (St31 ns), some (.ref 16), a2, a3, a4, a5, a6, a7, a8] h = .nx [some (St31 ns), some (.ref 16), a2, b3, b4, b5, b6, b7, b8] h' ∧ Inv31 ns h' W' T d R od ks N v := by
    intro h W I a2 a3 a4 a5 a6 a7 a8
    obtain ⟨l', h', e, W', b3, b4, b5, b6, b7, b8, rfl, I'⟩ := for_inv (xs := intsV 0 3) (g := gNm 3) (b := m_law_all_told_f1) (l := [some (St31 ns), some (.ref 16), a2, a3, a4, a5, a6, a7, a8]) (h := h)
      (fun r l' h' => ∃ W' b3 b4 b5 b6 b7 b8, l' = [some (St31 ns), some (.ref 16), a2, b3, b4, b5, b6, b7, b8] ∧ Inv31 ns h' W' T d R od ks N v) ⟨W, a3, a4, a5, a6, a7, a8, rfl, I⟩ (by
      rintro r x l' h' hx ⟨W', b3, b4, b5, b6, b7, b8, rfl, I'⟩
      obtain ⟨hr, rfl⟩ := intsV_get hx
      rw [Int.zero_add]
      obtain ⟨W2, h2, c4, c5, c6, c7, c8, e, I2⟩ := F1 I' r hr a2 b4 b5 b6 b7 b8
      exact ⟨[some (St31 ns), some (.ref 16), a2, some (.int (r : Nat)), b4, b5, b6, b7, b8], _, h2, rfl, e, W2, some (.int (r : Nat)), c4, c5, c6, c7, c8, rfl, I2⟩)
    refine ⟨W', h', b3, b4, b5, b6, b7, b8, ?_, I'⟩
    unfold m_law_all_told_f0
    simp only [ev_sFor, ev_iArgs, ev_aCons, ev_aNil, ev_C, Res.bind_ok, r3, Res.thn_ok, e]
  obtain ⟨l1, h1, e1, W1, b2, b3, b4, b5, b6, b7, b8, rfl, I1⟩ := for_inv (xs := intsV 0 2) (g := gNm 2) (b := m_law_all_told_f0) (l := [some (St31 ns), some (.ref 16), none, none, none, none, none, none, none]) (h := h)
    (fun r l' h' => ∃ W' b2 b3 b4 b5 b6 b7 b8, l' = [some (St31 ns), some (.ref 16), b2, b3, b4, b5, b6, b7, b8] ∧ Inv31 ns h' W' T d R od ks N v) ⟨W, none, none, none, none, none, none, none, rfl, I⟩ (by
    rintro r x l' h' hx ⟨W', b2, b3, b4, b5, b6, b7, b8, rfl, I'⟩
    obtain ⟨hr, rfl⟩ := intsV_get hx
    obtain ⟨W2, h2, c3, c4, c5, c6, c7, c8, e, I2⟩ := F0 I' (some (.int (0 + (r : Int)))) b3 b4 b5 b6 b7 b8
    exact ⟨[some (St31 ns), some (.ref 16), some (.int (0 + (r : Int))), b3, b4, b5, b6, b7, b8], _, h2, rfl, e, W2, _, c3, c4, c5, c6, c7, c8, rfl, I2⟩)
  clear F0 F1 I
  have F4 : ∀ {h T d R N}, Inv31 ns h W1 T d R od ks N v → N ≤ 890 → ∀ (i : Nat), i < 3 → ∀ a2 a4 a5 a6 a7 a8 : Option Val, ∃ h' T' d' R' b4 b8, m_law_all_told_f4 [some (St31 ns), some (.ref 16), a2, some (.int (i : Nat)), a4, a5, a6, a7, a8] h = .nx [some (St31 ns), some (.ref 16), a2, some (.int (i : Nat)), b4, a5, a6, a7, b8] h' ∧ Inv31 ns h' W1 T' d' R' od ks (N + 3) v := by
    intro h T d R N I hN i hi a2 a4 a5 a6 a7 a8
    have lo := others_len (i := i)
    obtain ⟨l', h', e, T', d', R', b4, rfl, I'⟩ := for_inv (xs := (othersK i).map fun k => Val.int (k : Nat)) (g := gNm 4) (b := m_law_all_told_f5) (l := [some (St31 ns), some (.ref 16), a2, some (.int (i : Nat)), a4, a5, a6, a7, a8]) (h := h)
      (fun r l' h' => ∃ T' d' R' b4, l' = [some (St31 ns), some (.ref 16), a2, some (.int (i : Nat)), b4, a5, a6, a7, a8] ∧ Inv31 ns h' W1 T' d' R' od ks (N + r) v) ⟨T, d, R, a4, rfl, I⟩ (by
      rintro r x l' h' hx ⟨T', d', R', b4, rfl, I'⟩
      obtain ⟨k, hk, rfl⟩ : ∃ k, (othersK i)[r]? = some k ∧ x = .int (k : Nat) := by
        rw [List.getElem?_map, Option.map_eq_some_iff] at hx
        obtain ⟨j, h1, h2⟩ := hx
        exact ⟨j, h1, h2.symm⟩
      have km := mem_others.mp (List.mem_of_getElem? hk)
      have hr := (List.getElem?_eq_some_iff.mp hk).1
      obtain ⟨h2, T2, d2, R2, e, I2⟩ := told_f5 I' hv (by omega) hi km.1 km.2 a2 a5 a6 a7 a8
      exact ⟨[some (St31 ns), some (.ref 16), a2, some (.int (i : Nat)), some (.int (k : Nat)), a5, a6, a7, a8], _, h2, rfl, e, T2, d2, R2, some (.int (k : Nat)), rfl, I2⟩)
    rw [List.length_map] at I'
    have lc := lc_others (i := i) (s := 8) (a := 3) (l := [some (St31 ns), some (.ref 16), a2, some (.int (i : Nat)), a4, a5, a6, a7, none]) (h := h) fun x => ⟨_, rfl, fun h => rfl, fun h => rfl⟩
    refine ⟨h', T', d', R', b4, a8, ?_, I'.up (by omega) (Nat.le_refl _)⟩
    have sr : ∀ (x : List Val) h, srcOf (.lst x) h = .ok (srcItems x) h := fun _ _ => rfl
    unfold m_law_all_told_f4
    simp only [ev_sFor, ev_iVal, ev_eLc, ev_iArgs, ev_aCons, ev_aNil, ev_C, Res.bind_ok, r3, wipeL, List.set, lc, ev_frozen, sr, Res.thn_ok, e]
  obtain ⟨l2, h2, ze2, T', d', R', c3, c4, c8, rfl, I2⟩ := for_inv (xs := intsV 0 3) (g := gNm 3) (b := m_law_all_told_f4) (l := [some (St31 ns), some (.ref 16), b2, b3, b4, b5, b6, b7, b8]) (h := h1)
    (fun r l' h' => ∃ T' d' R' c3 c4 c8, l' = [some (St31 ns), some (.ref 16), b2, c3, c4, b5, b6, b7, c8] ∧ Inv31 ns h' W1 T' d' R' od ks (N + 3 * r) v) ⟨T, d, R, b3, b4, b8, rfl, I1⟩ (by
    rintro r x l' h' hx ⟨T', d', R', c3, c4, c8, rfl, I'⟩
    obtain ⟨hr, rfl⟩ := intsV_get hx
    rw [Int.zero_add]
    obtain ⟨h2, T2, d2, R2, e4, e8, e, I2⟩ := F4 I' (by omega) r hr b2 c4 b5 b6 b7 c8
    exact ⟨[some (St31 ns), some (.ref 16), b2, some (.int (r : Nat)), c4, b5, b6, b7, c8], _, h2, rfl, e, T2, d2, R2, some (.int (r : Nat)), e4, e8, rfl, I2.up (by omega) (Nat.le_refl _)⟩)
  rw [i3] at I2
  refine ⟨W1, h2, T', d', R', ?_, I2⟩
  generalize St31 ns = st at *
  unfold m_law_all_told mF
  simp only [List.map_cons, List.map_nil, List.cons_append, List.nil_append, List.length_cons, List.length_nil, List.replicate, Nat.reduceAdd, Nat.reduceSub]
  simp only [ev_sSeq, ev_sFor, ev_iArgs, ev_aCons, ev_aNil, ev_C, Res.bind_ok, r2, r3, Res.thn_ok, e1, ze2]
end
end
end MM
namespace MM
open PySem L2 PySem.W
noncomputable section
def m_law_k31_f0 : SM := sSub (eVar 2) (eDisp mkTup (aCons (e2 vFdiv (eVar 3) (eC (.int 3))) (aCons (e2 vMod (eVar 3) (eC (.int 3))) (aNil)))) (eDictT)
def m_law_k31_f1 : SM := sIf (tOrM (tNotM (tTru (eCall m_law_turn_v3 (aCons (eVar 1) (aCons (eVar 2) (aCons (eVar 4) (aCons (e2 vAdd (eCall m_law_cell (aCons (eVar 0) (aCons (e2 vAdd (eC (.int 1)) (e2 vMod (eVar 3) (eC (.int 9)))) (aNil)))) (e2 vMul (eC (.int 61)) (eVar 3))) (aNil)))))))) (tNotM (tTru (eCall m_law_is_out (aCons (eVar 1) (aCons (eVar 4) (aNil))))))) (sRet (eC (.bl false))) (sNil)
def m_law_k31_f2 : SM := sIf (tOrM (tNotM (tTru (eCall m_law_forget (aCons (eVar 1) (aCons (eVar 2) (aCons (eVar 4) (aCons (eVar 5) (aNil)))))))) (tNotM (tTru (eCall m_law_is_out (aCons (eVar 1) (aCons (eVar 4) (aNil))))))) (sRet (eC (.bl false))) (sNil)
def m_law_k31 : FM := mF 6 (sSeq (sAsg (eCall m_law_start (aCons (eVar 0) (aCons (eC (.int 3)) (aNil)))) (gNm 1))
  (sSeq (sAsg (eDictT) (gNm 2))
  (sSeq (sFor (iArgs rng1 (aCons (eC (.int 9)) (aNil))) (gNm 3) m_law_k31_f0)
  (sSeq (sAsg (eDictQ) (gNm 4))
  (sSeq (sFor (iArgs rng1 (aCons (eC (.int 12)) (aNil))) (gNm 3) m_law_k31_f1)
  (sSeq (sIf (tOf (e2 vEq (e2 vMod (eCall m_law_cell (aCons (eVar 0) (aCons (eC (.int 0)) (aNil)))) (eC (.int 2))) (eC (.int 0)))) (sSeq (sDrop (eCall m_law_all_told (aCons (eVar 1) (aCons (eVar 2) (aNil)))))
  (sSeq (sFor (iVal (eCall s_law_perm (aCons (eCall m_law_cell (aCons (eVar 0) (aCons (eC (.int 1)) (aNil)))) (aCons (eC (.int 3)) (aNil))))) (gNm 5) m_law_k31_f2)
  (sDrop (eCall m_law_all_told (aCons (eVar 1) (aCons (eVar 2) (aNil))))))) (sNil))
  (sRet (eCall m_law_is_out (aCons (eVar 1) (aCons (eVar 4) (aNil)))))))))))
theorem order3 {c : Int} {m : Nat} : ∃ ks : List Nat, (lperm c (m : Nat)).map Val.int = ks.map (fun k => .int (k : Nat)) ∧ (∀ k ∈ ks, k < m) ∧ ks.length = m := by
  have P := lperm_perm (c := c) (n := (m : Nat))
  rw [Int.toNat_natCast] at P
  have mem : ∀ x ∈ lperm c (m : Nat), ∃ k : Nat, k < m ∧ x = (k : Nat) := fun x hx => by
    obtain ⟨k, hk, e⟩ := List.mem_map.mp (P.mem_iff.mp hx)
    exact ⟨k, List.mem_range.mp hk, by rw [← e, Int.zero_add]⟩
  refine ⟨(lperm c (m : Nat)).map Int.toNat, ?_, ?_, ?_⟩
  · rw [List.map_map]
    refine List.map_congr_left fun x hx => ?_
    obtain ⟨k, _, rfl⟩ := mem x hx
    rfl
  · intro k hk
    obtain ⟨x, hx, rfl⟩ := List.mem_map.mp hk
    obtain ⟨k, hk2, rfl⟩ := mem x hx
    simpa using hk2
  · have := P.length_eq
    simpa using this
section
variable {h h' : HM} {W : Wo} {T : Nat → List Tl} {d : List (Mk × Nat)} {R : Nat → Nat → List (Mk × KB)} {od : Nat} {ks : List (Int × Mk)} {ns : List Int} {N v : Nat}
theorem told_init {hs : HM} (l16 : hs.length = 16) : ∃ l' h' d, forL (srcItems (intsV 0 9)) (gNm 3) m_law_k31_f0 (srcItems (intsV 0 9)).len 0 [some (.scr ns), some (St31 ns), some (.ref 16), none, none, none] (hs ++ [.dT []]) = .nx l' h' ∧
    (∃ a3, l' = [some (.scr ns), some (St31 ns), some (.ref 16), a3, none, none]) ∧ h'.length = 26 ∧ (∀ q, q < 16 → h'[q]? = hs[q]?) ∧ h'[16]? = some (.dT (kvM Val.ref d)) ∧ d.length ≤ 9 ∧ ∀ i j : Nat, i < 3 → j < 3 → ∃ ad, getM d ((i : Int), (j : Int)) = some ad ∧ 16 < ad ∧ h'[ad]? = some (.dT []) := by
  obtain ⟨l', h', e, a3, rfl, d, q1, q2, q3, q4, q5⟩ := for_inv (xs := intsV 0 9) (g := gNm 3) (b := m_law_k31_f0) (l := [some (.scr ns), some (St31 ns), some (.ref 16), none, none, none]) (h := hs ++ [.dT []])
    (fun r l' h' => ∃ a3, l' = [some (.scr ns), some (St31 ns), some (.ref 16), a3, none, none] ∧ ∃ d : List (Mk × Nat), h'.length = 17 + r ∧ (∀ q, q < 16 → h'[q]? = hs[q]?) ∧ h'[16]? = some (.dT (kvM Val.ref d)) ∧ d.length ≤ r ∧ ∀ k, k < r → getM d (((k / 3 : Nat) : Int), ((k % 3 : Nat) : Int)) = some (17 + k) ∧ h'[17 + k]? = some (.dT []))
    ⟨none, rfl, [], by simp [l16], fun q hq => List.getElem?_append_left (by omega), by rw [List.getElem?_append_right (by omega), l16]; rfl, Nat.le_refl _, fun k hk => absurd hk (by omega)⟩ (by
    rintro r x l' h' hx ⟨a3, rfl, d, q1, q2, q3, q4, q5⟩
    obtain ⟨hr, rfl⟩ := intsV_get hx
    rw [Int.zero_add]
    have H1 : (h' ++ [Ob.dT []])[16]? = some (.dT (kvM Val.ref d)) := by rw [List.getElem?_append_left (by omega)]; exact q3
    have sI : setI (.ref 16) (eM (((r / 3 : Nat) : Int), ((r % 3 : Nat) : Int))) (.ref (17 + r)) (h' ++ [Ob.dT []]) = some ((h' ++ [Ob.dT []]).set 16 (Ob.dT (kvM Val.ref (puM d (((r / 3 : Nat) : Int), ((r % 3 : Nat) : Int)) (17 + r))))) := setI_M H1 (by omega)
    have fd : ∀ h : HM, vFdiv (.int (r : Nat)) (.int 3) h = .ok (.int ((r / 3 : Nat) : Int)) h := fun h => by simp [vFdiv]
    have md : ∀ h : HM, vMod (.int (r : Nat)) (.int 3) h = .ok (.int ((r % 3 : Nat) : Int)) h := fun h => by rw [ev_modI (by omega)]; simp
    have mt : ∀ (x y : Int) (h : HM), mkTup [.int x, .int y] h = .ok (eM (x, y)) h := fun x y h => ev_mkTup (by simp)
    have dT : ∀ l, eDictT l h' = .ok (.ref (17 + r)) (h' ++ [Ob.dT []]) := fun l => by rw [ev_eDictT, q1]
    refine ⟨[some (.scr ns), some (St31 ns), some (.ref 16), some (.int (r : Nat)), none, none], [some (.scr ns), some (St31 ns), some (.ref 16), some (.int (r : Nat)), none, none], (h' ++ [Ob.dT []]).set 16 (Ob.dT (kvM Val.ref (puM d (((r / 3 : Nat) : Int), ((r % 3 : Nat) : Int)) (17 + r)))), rfl, ?_, some (.int (r : Nat)), rfl, puM d (((r / 3 : Nat) : Int), ((r % 3 : Nat) : Int)) (17 + r), by simp [q1]; omega, fun q hq => ?_, ?_, ?_, fun k hk => ⟨?_, ?_⟩⟩
    · unfold m_law_k31_f0
      generalize St31 ns = st at *
      simp only [ev_sSub, dT, Res.thn_ok, ev_VarS, ev_Var0, ev_eDisp, ev_aCons, ev_aNil, ev_e2, ev_C, Res.bind_ok, fd, md, mt, sI]
    · rw [List.getElem?_set_ne (by omega), List.getElem?_append_left (by omega)]; exact q2 q hq
    · rw [List.getElem?_set_self (by simp; omega)]
    · have := puM_len (d := d) (w := (((r / 3 : Nat) : Int), ((r % 3 : Nat) : Int))) (a := 17 + r); omega
    · rw [getM_put]
      by_cases c : k = r
      · subst c; rw [if_pos rfl]
      · rw [if_neg (fun z => c (by
          have z1 := congrArg Prod.fst z
          have z2 := congrArg Prod.snd z
          simp only at z1 z2
          omega))]
        exact (q5 k (by omega)).1
    · rw [List.getElem?_set_ne (by omega)]
      by_cases c : k = r
      · subst c
        rw [List.getElem?_append_right (by omega), q1]
        simp
      · rw [List.getElem?_append_left (by omega)]; exact (q5 k (by omega)).2)
  have i9 : (intsV 0 9).length = 9 := rfl
  rw [i9] at q1 q4 q5
  refine ⟨_, h', d, e, ⟨a3, rfl⟩, q1, q2, q3, q4, fun i j hi hj => ⟨17 + (3 * i + j), ?_, by omega, (q5 (3 * i + j) (by omega)).2⟩⟩
  have := (q5 (3 * i + j) (by omega)).1
  rw [show (3 * i + j) / 3 = i by omega, show (3 * i + j) % 3 = j by omega] at this
  exact this
theorem law_end (I : Inv31 ns h W T d R od ks N v) (hv : v ≤ 20) : ∃ h', m_law_is_out [St31 ns, .ref od] h = .ok (.bl true) h' ∧ Inv31 ns h' W T d R od ks N v := by
  obtain ⟨g, e⟩ := at_isout I hv
  rw [I.st] at e
  exact ⟨_, e, I.app⟩
end
theorem law_ok (ns : List Int) (hns : ns.length ≤ 63) : ∃ h0, m_law_k31 [.scr ns] [] = .ok (.bl true) h0 := by
  obtain ⟨hs, es, Hs, ls, ts⟩ := at_start2 (ns := ns) (m := 3) (h := []) (by omega) (by omega)
  have es : m_law_start [.scr ns, .int 3] [] = .ok (St31 ns) hs := es
  have l16 : hs.length = 16 := ls
  obtain ⟨l1, h1, d, e1, ⟨a3, rfl⟩, q1, q2, q3, q4, q5⟩ := told_init (ns := ns) l16
  have dT : ∀ l, eDictT l hs = .ok (.ref 16) (hs ++ [.dT []]) := fun l => by rw [ev_eDictT, l16]
  have dQ : ∀ l, eDictQ l h1 = .ok (.ref 26) (h1 ++ [.dQ []]) := fun l => by
    show Res.ok (Val.ref h1.length) _ = _
    rw [q1]
  -- the beginning
  have I0 : Inv31 ns (h1 ++ [.dQ []]) (Wo0 3 (num0 ns)) (fun _ => []) d (fun _ _ => []) 26 [] 0 0 := by
    have key : ∀ {q : Nat} {x : Ob}, hs[q]? = some x → (h1 ++ [Ob.dQ []])[q]? = some x := fun {q x} e => by
      have lt := (List.getElem?_eq_some_iff.mp e).1
      rw [List.getElem?_append_left (by omega), q2 q (by omega)]; exact e
    have He : ∀ {i own acts E}, HE hs i own acts E → HE (h1 ++ [Ob.dQ []]) i own acts E := fun {i own acts E} H => by
      obtain ⟨D', e, q⟩ := H
      exact ⟨D', e, ⟨key q.ins, key q.sh⟩⟩
    refine ⟨⟨key Hs.hs, key Hs.cs, key Hs.as, key Hs.bs, fun i hi => He (Hs.hh i hi), fun i hi => key (Hs.bk i hi), Hs.sp⟩, Wo0_ok (by omega), rfl, rfl, ⟨fun i hi => ⟨?_, fun t ht => (by cases ht)⟩, fun i hi t ht => (by cases ht), ?_, fun i j hi hj => ?_, ?_, by omega⟩, ⟨fun i hi j hj hne w => rfl, fun i hi j hj hne w q hq => (by cases hq), fun x hx => (by cases hx), fun i w hk => (by cases hk)⟩, Nat.le_refl _, fun i => Nat.le_refl _, q4, Nat.le_refl _⟩
    · rw [DD_ha]
      have := ts i hi
      show _ = some (Ob.dK [])
      exact key (by simpa using this)
    · rw [List.getElem?_append_left (by omega)]; exact q3
    · obtain ⟨ad, a1, a2, a3⟩ := q5 i j hi hj
      refine ⟨ad, a1, a2, ?_⟩
      rw [List.getElem?_append_left (List.getElem?_eq_some_iff.mp a3).1]; exact a3
    · rw [List.getElem?_append_right (by omega), q1]; rfl
  -- the turns
  obtain ⟨l2, h2, ze2, b3, W2, T2, d2, R2, ks2, rfl, I2⟩ := for_inv (xs := intsV 0 12) (g := gNm 3) (b := m_law_k31_f1) (l := [some (.scr ns), some (St31 ns), some (.ref 16), a3, some (.ref 26), none]) (h := h1 ++ [.dQ []])
    (fun r l' h' => ∃ b3 W T d R ks, l' = [some (.scr ns), some (St31 ns), some (.ref 16), b3, some (.ref 26), none] ∧ Inv31 ns h' W T d R 26 ks r r)
    ⟨a3, _, _, _, _, _, rfl, I0⟩ (by
    rintro r x l' h' hx ⟨b3, W, T, d, R, ks, rfl, I⟩
    obtain ⟨hr, rfl⟩ := intsV_at hx
    rw [Int.zero_add]
    have md : ∀ h : HM, vMod (.int (r : Nat)) (.int 9) h = .ok (.int ((r : Int) % 9)) h := fun h => ev_modI (by omega)
    have ml : ∀ h : HM, vMul (.int 61) (.int (r : Nat)) h = .ok (.int (61 * (r : Int))) h := fun h => ev_mulI (by omega)
    have cl : ∀ h, m_law_cell [.scr ns, .int (1 + (r : Int) % 9)] h = .ok (.int (cell ns (1 + (r : Int) % 9))) h := fun h => at_cell' (by omega)
    obtain ⟨W', h2, T', d', R', ks', e, I'⟩ := at_turn31 I (by omega) (by omega) (cell ns (1 + (r : Int) % 9) + 61 * (r : Int))
    rw [I.st] at e
    obtain ⟨h3, e3, I3⟩ := law_end I' (by omega)
    refine ⟨[some (.scr ns), some (St31 ns), some (.ref 16), some (.int (r : Nat)), some (.ref 26), none], [some (.scr ns), some (St31 ns), some (.ref 16), some (.int (r : Nat)), some (.ref 26), none], h3, rfl, ?_, some (.int (r : Nat)), W', T', d', R', ks', rfl, I3⟩
    generalize St31 ns = st at *
    unfold m_law_k31_f1
    simp only [ev_sIf, ev_tOr, ev_tNot, ev_tTru, ev_eCall, ev_aCons, ev_aNil, ev_VarS, ev_Var0, Res.bind_ok, ev_e2, ev_C, md, ml, ev_addI, cl, e, ev_truB, Bool.not_true, Bool.false_eq_true, if_false, e3, Res.thn_ok, ev_sNil])
  have i12 : (intsV 0 12).length = 12 := rfl
  rw [i12] at I2
  have r9 : ∀ h, rng1 [.int 9] h = .ok (srcItems (intsV 0 9)) h := fun h => ev_rng1 (by omega)
  have r12 : ∀ h, rng1 [.int 12] h = .ok (srcItems (intsV 0 12)) h := fun h => ev_rng1 (by omega)
  have c0 : ∀ h, m_law_cell [.scr ns, .int 0] h = .ok (.int (cell ns 0)) h := fun h => at_cell' (by omega)
  have c1 : ∀ h, m_law_cell [.scr ns, .int 1] h = .ok (.int (cell ns 1)) h := fun h => at_cell' (by omega)
  have md2 : ∀ h : HM, vMod (.int (cell ns 0)) (.int 2) h = .ok (.int (cell ns 0 % 2)) h := fun h => ev_modI (by omega)
  have eq0 : ∀ h : HM, vEq (.int (cell ns 0 % 2)) (.int 0) h = .ok (.bl (decide (cell ns 0 % 2 = 0))) h := fun h => by rw [ev_eqI]
  clear q1 q2 q3 q4 q5 I0 Hs ts ls
  by_cases c : cell ns 0 % 2 = 0
  · rw [decide_eq_true c] at eq0
    obtain ⟨W3, h3, T3, d3, R3, e3, I3⟩ := at_alltold I2 (by omega) (by omega)
    obtain ⟨ord, p1, p2, p3⟩ := order3 (c := cell ns 1) (m := 3)
    have pm : ∀ h, s_law_perm [.int (cell ns 1), .int 3] h = .ok (.lst (ord.map fun k => .int (k : Nat))) h := fun h => by
      rw [perm_ok (by omega), ← p1]; rfl
    obtain ⟨l4, h4, e4, b5, W4, ks4, rfl, I4⟩ := for_inv (xs := ord.map fun k => Val.int (k : Nat)) (g := gNm 5) (b := m_law_k31_f2) (l := [some (.scr ns), some (St31 ns), some (.ref 16), b3, some (.ref 26), none]) (h := h3)
      (fun r l' h' => ∃ b5 W ks, l' = [some (.scr ns), some (St31 ns), some (.ref 16), b3, some (.ref 26), b5] ∧ Inv31 ns h' W T3 d3 R3 26 ks (12 + 9 + r) 12)
      ⟨none, _, _, rfl, I3⟩ (by
      rintro r x l' h' hx ⟨b5, W, ks, rfl, I⟩
      obtain ⟨k, hk, rfl⟩ : ∃ k, ord[r]? = some k ∧ x = .int (k : Nat) := by
        rw [List.getElem?_map, Option.map_eq_some_iff] at hx
        obtain ⟨j, h1, h2⟩ := hx
        exact ⟨j, h1, h2.symm⟩
      have k3 := p2 k (List.mem_of_getElem? hk)
      have hr := (List.getElem?_eq_some_iff.mp hk).1
      obtain ⟨W', h2, ks', e, I'⟩ := at_forget31 I (by omega) (by omega) k3
      rw [I.st] at e
      obtain ⟨h3, e3, I3⟩ := law_end I' (by omega)
      refine ⟨[some (.scr ns), some (St31 ns), some (.ref 16), b3, some (.ref 26), some (.int (k : Nat))], [some (.scr ns), some (St31 ns), some (.ref 16), b3, some (.ref 26), some (.int (k : Nat))], h3, rfl, ?_, some (.int (k : Nat)), W', ks', rfl, I3⟩
      generalize St31 ns = st at *
      unfold m_law_k31_f2
      simp only [ev_sIf, ev_tOr, ev_tNot, ev_tTru, ev_eCall, ev_aCons, ev_aNil, ev_VarS, ev_Var0, Res.bind_ok, e, ev_truB, Bool.not_true, Bool.false_eq_true, if_false, e3, Res.thn_ok, ev_sNil])
    rw [List.length_map, p3] at I4
    obtain ⟨W5, h5, T5, d5, R5, e5, I5⟩ := at_alltold I4 (by omega) (by omega)
    obtain ⟨h6, e6, _⟩ := law_end I5 (by omega)
    refine ⟨h6, ?_⟩
    have sr : ∀ (x : List Val) h, srcOf (.lst x) h = .ok (srcItems x) h := fun _ _ => rfl
    clear I2 I3 I4 I5
    generalize St31 ns = st at *
    unfold m_law_k31 mF
    rw [show List.map some [Val.scr ns] ++ List.replicate (6 - [Val.scr ns].length) none = [some (.scr ns), none, none, none, none, none] from rfl]
    simp only [ev_sSeq, ev_sAsg, ev_eCall, ev_aCons, ev_aNil, ev_Var0, ev_VarS, ev_C, Res.bind_ok, es, Res.thn_ok, ev_gNm0, ev_gNmS, Option.map_some, dT, ev_sFor, ev_iArgs, r9, e1, dQ, r12, ze2, ev_sIf, ev_tOf, ev_e2, c0, md2, eq0, ev_toB, if_true, ev_sDrop, e3, ev_iVal, c1, pm, sr, e4, e5, ev_sRet, e6]
  · rw [decide_eq_false c] at eq0
    obtain ⟨h6, e6, _⟩ := law_end I2 (by omega)
    refine ⟨h6, ?_⟩
    clear I2
    generalize St31 ns = st at *
    unfold m_law_k31 mF
    rw [show List.map some [Val.scr ns] ++ List.replicate (6 - [Val.scr ns].length) none = [some (.scr ns), none, none, none, none, none] from rfl]
    simp only [ev_sSeq, ev_sAsg, ev_eCall, ev_aCons, ev_aNil, ev_Var0, ev_VarS, ev_C, Res.bind_ok, es, Res.thn_ok, ev_gNm0, ev_gNmS, Option.map_some, dT, ev_sFor, ev_iArgs, r9, e1, dQ, r12, ze2, ev_sIf, ev_tOf, ev_e2, c0, md2, eq0, ev_toB, Bool.false_eq_true, if_false, ev_sNil, ev_sRet, e6]
end
end MM
namespace MM
open PySem PySem.Spec PyProof.Rows L2
/-- a law that calls defs that may let errors out, but lets none out itself -/
theorem walk_ofW {l : PySem.W.OpenLaw} {n k : Nat} {q : Program} {loose : List Str} {XP : (Str → Option Value) → Heap → Prop} {YP : World → Heap → Prop} {d : DefRec} {x : Str}
    (hn : l.most = some n) (hn2 : n ≤ sizeLine) (hdf : d.params.defaults = []) (hr : Room k callerA)
    (F : ∀ (w : World) (mg : Str → Option Value) (fa : Addr) (h : Heap), YP w h → h.Ns mainGlobals mg → mg d.name = some (.ref fa) →
      ∃ (K : PySem.W.Frag) (fd : FuncData) (sp : Sp), K.In h ∧ (∀ (s : Shared) (u : Value), BindsTo s fd ⟨[u], []⟩ [(x, u)]) ∧
        (∀ (H : Hp) (a : Addr) (ns : List Int), ns.length ≤ n → Only H → SqL K H a (ns.map V.int) → sp [.ref a] H (fun v _ => v = .bl true) fun _ _ _ => False) ∧
        ∀ base : Heap, K.In base → base.Ns mainGlobals mg → FnOk l.prog w K mg base (L2.CX l.prog w) k fa fd [x] sp) :
    PySem.W.WalkO q loose XP YP l.row.toRowW d [] (fun f vs => PySem.call f vs) := by
  refine Att.attach_call hn hdf fun w s₀ s₁ mg mb fa o pm cd doc a vs ns G Y ho hd hcd hmg hobj hints hlen hg => ?_
  obtain ⟨K, fd, sp, KX, hb, hsp, hF⟩ := F w mg fa _ Y G.T.g hmg
  exact law_call KX G.T.g G.T.b G.T.builtins G.T.nolimit hg hobj hints (Nat.le_trans hlen hn2) hr hF hb (fun H hO hS => hsp H a ns hlen hO hS) fun H e s' ⟨_, _, _, _, _, _, _, _, _, _, _, _, z⟩ => z
end MM
namespace MM
open PySem L2
/-- a def of which nothing is told -/
theorem FnM.bad {P : Program} {w : World} {K : PySem.W.Frag} {mg : Str → Option Value} {base : Heap} {G : Glob} {f : Addr} {x qual : Str} {params : Arguments} {body : List Stmt} {scope : Scope} {fd : FuncData} {N ps : List Str} (F : FunD K x qual params body scope [] [] f fd) (S : FnScope N ps scope)
    (hb : ∀ (kV doc pm : Value) (an : Option Addr) (cdv ct : Value) (us : List Value), us.length = ps.length → bindArgs (PySem.W.fnOf x qual params body scope .none kV doc pm an cdv ct) ⟨us, []⟩ = pure (ps.zip us)) : FnM P w K mg base G 0 f ps.length (fun _ _ => .bad) := by
  refine ⟨fd, ps, ⟨fun vs H Q E h => h.1, fun A outer s H args us vs Q E hr he hbd rv h => ?_⟩, F.bindsN hb, F.kp⟩
  obtain ⟨_, r, h1, xs, q, z, p⟩ := h
  exact p.elim
end MM
namespace LW
open PySem L2 MM
structure Env (K : PySem.W.Frag) (mg : Str → Option Value) : Prop where
  g__law_mix : mg "_law_mix" = some (.ref (He.ga K "_law_mix"))
  g__law_perm : mg "_law_perm" = some (.ref (He.ga K "_law_perm"))
  g__law_cell : mg "_law_cell" = some (.ref (He.ga K "_law_cell"))
  g__law_start : mg "_law_start" = some (.ref (He.ga K "_law_start"))
  g__law_left : mg "_law_left" = some (.ref (He.ga K "_law_left"))
  g__law_files : mg "_law_files" = some (.ref (He.ga K "_law_files"))
  g__law_same : mg "_law_same" = some (.ref (He.ga K "_law_same"))
  g_is_gone : mg "is_gone" = some (.ref (He.ga K "is_gone"))
  g__law_is_right : mg "_law_is_right" = some (.ref (He.ga K "_law_is_right"))
  g__law_is_out : mg "_law_is_out" = some (.ref (He.ga K "_law_is_out"))
  g_known_together : mg "known_together" = some (.ref (He.ga K "known_together"))
  g_is_within : mg "is_within" = some (.ref (He.ga K "is_within"))
  g_kept_of : mg "kept_of" = some (.ref (He.ga K "kept_of"))
  g_marked_together : mg "marked_together" = some (.ref (He.ga K "marked_together"))
  g_put_together : mg "put_together" = some (.ref (He.ga K "put_together"))
  g__law_tell : mg "_law_tell" = some (.ref (He.ga K "_law_tell"))
  g__law_all_told : mg "_law_all_told" = some (.ref (He.ga K "_law_all_told"))
  g__law_forget : mg "_law_forget" = some (.ref (He.ga K "_law_forget"))
  g__law_name : mg "_law_name" = some (.ref (He.ga K "_law_name"))
  g__law_text : mg "_law_text" = some (.ref (He.ga K "_law_text"))
  g_is_name : mg "is_name" = some (.ref (He.ga K "is_name"))
  g_is_text : mg "is_text" = some (.ref (He.ga K "is_text"))
  g__law_deed : mg "_law_deed" = some (.ref (He.ga K "_law_deed"))
  g__law_led : mg "_law_led" = some (.ref (He.ga K "_law_led"))
  g__law_turn : mg "_law_turn" = some (.ref (He.ga K "_law_turn"))
  g_law : mg "law" = some (.ref (He.ga K "law"))
  n_len : mg "len" = none
  n_isinstance : mg "isinstance" = none
  n_all : mg "all" = none
  n_any : mg "any" = none
  n_range : mg "range" = none
  n_sorted : mg "sorted" = none
  n_tuple : mg "tuple" = none
  n_dict : mg "dict" = none
  n_set : mg "set" = none
  n_list : mg "list" = none
  n_str : mg "str" = none
  n_int : mg "int" = none
  n_bool : mg "bool" = none
  n_max : mg "max" = none
  n_zip : mg "zip" = none
  LETTERS : ∃ t, mg "LETTERS" = some (.str "abcdefghijklmnopqrstuvwxyz" t)
  g_House : mg "House" = some (.ref (He.ga K "House"))
  c_House : Cls K (He.ga K "House")
  mk_House : Mk K (He.ga K "House") (He.ma K (He.ga K "House") "__init__")
  m_House_ids : Meth K (He.ga K "House") "ids" (He.ma K (He.ga K "House") "ids")
  m_House_gone : Meth K (He.ga K "House") "gone" (He.ma K (He.ga K "House") "gone")
  m_House_heard : Meth K (He.ga K "House") "heard" (He.ma K (He.ga K "House") "heard")
  m_House_count : Meth K (He.ga K "House") "count" (He.ma K (He.ga K "House") "count")
  m_House_number : Meth K (He.ga K "House") "number" (He.ma K (He.ga K "House") "number")
  m_House_file : Meth K (He.ga K "House") "file" (He.ma K (He.ga K "House") "file")
  m_House_told_by : Meth K (He.ga K "House") "told_by" (He.ma K (He.ga K "House") "told_by")
  m_House_take : Meth K (He.ga K "House") "take" (He.ma K (He.ga K "House") "take")
  m_House_lead_on : Meth K (He.ga K "House") "lead_on" (He.ma K (He.ga K "House") "lead_on")
  m_House_can_forget : Meth K (He.ga K "House") "can_forget" (He.ma K (He.ga K "House") "can_forget")
  m_House_forget : Meth K (He.ga K "House") "forget" (He.ma K (He.ga K "House") "forget")
  m_House_must_be_name : Meth K (He.ga K "House") "must_be_name" (He.ma K (He.ga K "House") "must_be_name")
  m_House_must_be_text : Meth K (He.ga K "House") "must_be_text" (He.ma K (He.ga K "House") "must_be_text")
  m_House_next_mark : Meth K (He.ga K "House") "next_mark" (He.ma K (He.ga K "House") "next_mark")
  m_House_make : Meth K (He.ga K "House") "make" (He.ma K (He.ga K "House") "make")
  m_House_there : Meth K (He.ga K "House") "there" (He.ma K (He.ga K "House") "there")
  m_House_write : Meth K (He.ga K "House") "write" (He.ma K (He.ga K "House") "write")
  m_House_rename : Meth K (He.ga K "House") "rename" (He.ma K (He.ga K "House") "rename")
  m_House_drop : Meth K (He.ga K "House") "drop" (He.ma K (He.ga K "House") "drop")
  na_House_own : NoAttr K (He.ga K "House") "own"
  na_House_acts : NoAttr K (He.ga K "House") "acts"
  na_House_shelf : NoAttr K (He.ga K "House") "shelf"
  na_House_told : NoAttr K (He.ga K "House") "told"
  g_NoFile : mg "NoFile" = some (.ref (He.ga K "NoFile"))
  x_NoFile : PySem.W.excIn K (He.ga K "NoFile") He.veBase "ValueError.__new__" = true
  k_NoFile : PySem.W.keepIn K (.ref (He.ga K "NoFile")) = true
  sb_NoFile : PySem.W.subIn K (.ref (He.ga K "NoFile")) (.type "BaseException") = some true
  ty_NoFile : PySem.W.typeIn K (.ref (He.ga K "NoFile")) = some (.type "type")
  g_NoName : mg "NoName" = some (.ref (He.ga K "NoName"))
  x_NoName : PySem.W.excIn K (He.ga K "NoName") He.veBase "ValueError.__new__" = true
  k_NoName : PySem.W.keepIn K (.ref (He.ga K "NoName")) = true
  sb_NoName : PySem.W.subIn K (.ref (He.ga K "NoName")) (.type "BaseException") = some true
  ty_NoName : PySem.W.typeIn K (.ref (He.ga K "NoName")) = some (.type "type")
  g_NoWords : mg "NoWords" = some (.ref (He.ga K "NoWords"))
  x_NoWords : PySem.W.excIn K (He.ga K "NoWords") He.veBase "ValueError.__new__" = true
  k_NoWords : PySem.W.keepIn K (.ref (He.ga K "NoWords")) = true
  sb_NoWords : PySem.W.subIn K (.ref (He.ga K "NoWords")) (.type "BaseException") = some true
  ty_NoWords : PySem.W.typeIn K (.ref (He.ga K "NoWords")) = some (.type "type")
  D0 : ∃ fd, FunD K "_law_mix" "_law_mix" (defArgs s0) (defBody s0) (defScope s0) [] [] (He.ga K "_law_mix") fd
  D1 : ∃ fd, FunD K "_law_perm" "_law_perm" (defArgs s1) (defBody s1) (defScope s1) [] [] (He.ga K "_law_perm") fd
  D2 : ∃ fd, FunD K "_law_cell" "_law_cell" (defArgs s2) (defBody s2) (defScope s2) [] [] (He.ga K "_law_cell") fd
  D3 : ∃ fd, FunD K "__init__" "House.__init__" (defArgs s3) (defBody s3) (defScope s3) [] [] (He.ma K (He.ga K "House") "__init__") fd
  D4 : ∃ fd, FunD K "_law_start" "_law_start" (defArgs s4) (defBody s4) (defScope s4) [] [] (He.ga K "_law_start") fd
  D5 : ∃ fd, FunD K "_law_left" "_law_left" (defArgs s5) (defBody s5) (defScope s5) [] [] (He.ga K "_law_left") fd
  D6 : ∃ fd, FunD K "_law_files" "_law_files" (defArgs s6) (defBody s6) (defScope s6) [] [] (He.ga K "_law_files") fd
  D7 : ∃ fd, FunD K "_law_same" "_law_same" (defArgs s7) (defBody s7) (defScope s7) [] [] (He.ga K "_law_same") fd
  D8 : ∃ fd, FunD K "is_gone" "is_gone" (defArgs s8) (defBody s8) (defScope s8) [] [] (He.ga K "is_gone") fd
  D9 : ∃ fd, FunD K "ids" "House.ids" (defArgs s9) (defBody s9) (defScope s9) [] [] (He.ma K (He.ga K "House") "ids") fd
  D10 : ∃ fd, FunD K "gone" "House.gone" (defArgs s10) (defBody s10) (defScope s10) [] [] (He.ma K (He.ga K "House") "gone") fd
  D11 : ∃ fd, FunD K "heard" "House.heard" (defArgs s11) (defBody s11) (defScope s11) [] [] (He.ma K (He.ga K "House") "heard") fd
  D12 : ∃ fd, FunD K "count" "House.count" (defArgs s12) (defBody s12) (defScope s12) [] [] (He.ma K (He.ga K "House") "count") fd
  D13 : ∃ fd, FunD K "number" "House.number" (defArgs s13) (defBody s13) (defScope s13) [] [] (He.ma K (He.ga K "House") "number") fd
  D14 : ∃ fd, FunD K "file" "House.file" (defArgs s14) (defBody s14) (defScope s14) [] [] (He.ma K (He.ga K "House") "file") fd
  D15 : ∃ fd, FunD K "_law_is_right" "_law_is_right" (defArgs s15) (defBody s15) (defScope s15) [] [] (He.ga K "_law_is_right") fd
  D16 : ∃ fd, FunD K "_law_is_out" "_law_is_out" (defArgs s16) (defBody s16) (defScope s16) [] [] (He.ga K "_law_is_out") fd
  D17 : ∃ fd, FunD K "told_by" "House.told_by" (defArgs s17) (defBody s17) (defScope s17) [] [] (He.ma K (He.ga K "House") "told_by") fd
  D18 : ∃ fd, FunD K "known_together" "known_together" (defArgs s18) (defBody s18) (defScope s18) [] [] (He.ga K "known_together") fd
  D19 : ∃ fd, FunD K "is_within" "is_within" (defArgs s19) (defBody s19) (defScope s19) [] [] (He.ga K "is_within") fd
  D20 : ∃ fd, FunD K "kept_of" "kept_of" (defArgs s20) (defBody s20) (defScope s20) [] [] (He.ga K "kept_of") fd
  D21 : ∃ fd, FunD K "marked_together" "marked_together" (defArgs s21) (defBody s21) (defScope s21) [] [] (He.ga K "marked_together") fd
  D22 : ∃ fd, FunD K "put_together" "put_together" (defArgs s22) (defBody s22) (defScope s22) [] [] (He.ga K "put_together") fd
  D23 : ∃ fd, FunD K "take" "House.take" (defArgs s23) (defBody s23) (defScope s23) [] [] (He.ma K (He.ga K "House") "take") fd
  D24 : ∃ fd, FunD K "lead_on" "House.lead_on" (defArgs s24) (defBody s24) (defScope s24) [] [] (He.ma K (He.ga K "House") "lead_on") fd
  D25 : ∃ fd, FunD K "_law_tell" "_law_tell" (defArgs s25) (defBody s25) (defScope s25) [] [] (He.ga K "_law_tell") fd
  D26 : ∃ fd, FunD K "_law_all_told" "_law_all_told" (defArgs s26) (defBody s26) (defScope s26) [] [] (He.ga K "_law_all_told") fd
  D27 : ∃ fd, FunD K "can_forget" "House.can_forget" (defArgs s27) (defBody s27) (defScope s27) [] [] (He.ma K (He.ga K "House") "can_forget") fd
  D28 : ∃ fd, FunD K "forget" "House.forget" (defArgs s28) (defBody s28) (defScope s28) [] [] (He.ma K (He.ga K "House") "forget") fd
  D29 : ∃ fd, FunD K "_law_forget" "_law_forget" (defArgs s29) (defBody s29) (defScope s29) [] [] (He.ga K "_law_forget") fd
  D30 : ∃ fd, FunD K "_law_name" "_law_name" (defArgs s30) (defBody s30) (defScope s30) [] [] (He.ga K "_law_name") fd
  D31 : ∃ fd, FunD K "_law_text" "_law_text" (defArgs s31) (defBody s31) (defScope s31) [] [] (He.ga K "_law_text") fd
  D32 : ∃ fd, FunD K "is_name" "is_name" (defArgs s32) (defBody s32) (defScope s32) [] [] (He.ga K "is_name") fd
  D33 : ∃ fd, FunD K "must_be_name" "House.must_be_name" (defArgs s33) (defBody s33) (defScope s33) [] [] (He.ma K (He.ga K "House") "must_be_name") fd
  D34 : ∃ fd, FunD K "is_text" "is_text" (defArgs s34) (defBody s34) (defScope s34) [] [] (He.ga K "is_text") fd
  D35 : ∃ fd, FunD K "must_be_text" "House.must_be_text" (defArgs s35) (defBody s35) (defScope s35) [] [] (He.ma K (He.ga K "House") "must_be_text") fd
  D36 : ∃ fd, FunD K "next_mark" "House.next_mark" (defArgs s36) (defBody s36) (defScope s36) [] [] (He.ma K (He.ga K "House") "next_mark") fd
  D37 : ∃ fd, FunD K "make" "House.make" (defArgs s37) (defBody s37) (defScope s37) [] [] (He.ma K (He.ga K "House") "make") fd
  D38 : ∃ fd, FunD K "there" "House.there" (defArgs s38) (defBody s38) (defScope s38) [] [] (He.ma K (He.ga K "House") "there") fd
  D39 : ∃ fd, FunD K "write" "House.write" (defArgs s39) (defBody s39) (defScope s39) [] [] (He.ma K (He.ga K "House") "write") fd
  D40 : ∃ fd, FunD K "rename" "House.rename" (defArgs s40) (defBody s40) (defScope s40) [] [] (He.ma K (He.ga K "House") "rename") fd
  D41 : ∃ fd, FunD K "drop" "House.drop" (defArgs s41) (defBody s41) (defScope s41) [] [] (He.ma K (He.ga K "House") "drop") fd
  D42 : ∃ fd, FunD K "_law_deed" "_law_deed" (defArgs s42) (defBody s42) (defScope s42) [] [] (He.ga K "_law_deed") fd
  D43 : ∃ fd, FunD K "_law_led" "_law_led" (defArgs s43) (defBody s43) (defScope s43) [] [] (He.ga K "_law_led") fd
  D44 : ∃ fd, FunD K "_law_turn" "_law_turn" (defArgs s44) (defBody s44) (defScope s44) [] [] (He.ga K "_law_turn") fd
  D45 : ∃ fd, FunD K "law" "law" (defArgs s45) (defBody s45) (defScope s45) [] [] (He.ga K "law") fd
theorem nd_House : (["own", "acts", "shelf", "told"] : List Str).Nodup := by decide
theorem nf_House_ids : ¬ ("ids" : Str) ∈ (["own", "acts", "shelf", "told"] : List Str) := by decide
theorem nf_House_gone : ¬ ("gone" : Str) ∈ (["own", "acts", "shelf", "told"] : List Str) := by decide
theorem nf_House_heard : ¬ ("heard" : Str) ∈ (["own", "acts", "shelf", "told"] : List Str) := by decide
theorem nf_House_count : ¬ ("count" : Str) ∈ (["own", "acts", "shelf", "told"] : List Str) := by decide
theorem nf_House_number : ¬ ("number" : Str) ∈ (["own", "acts", "shelf", "told"] : List Str) := by decide
theorem nf_House_file : ¬ ("file" : Str) ∈ (["own", "acts", "shelf", "told"] : List Str) := by decide
theorem nf_House_told_by : ¬ ("told_by" : Str) ∈ (["own", "acts", "shelf", "told"] : List Str) := by decide
theorem nf_House_take : ¬ ("take" : Str) ∈ (["own", "acts", "shelf", "told"] : List Str) := by decide
theorem nf_House_lead_on : ¬ ("lead_on" : Str) ∈ (["own", "acts", "shelf", "told"] : List Str) := by decide
theorem nf_House_can_forget : ¬ ("can_forget" : Str) ∈ (["own", "acts", "shelf", "told"] : List Str) := by decide
theorem nf_House_forget : ¬ ("forget" : Str) ∈ (["own", "acts", "shelf", "told"] : List Str) := by decide
theorem nf_House_must_be_name : ¬ ("must_be_name" : Str) ∈ (["own", "acts", "shelf", "told"] : List Str) := by decide
theorem nf_House_must_be_text : ¬ ("must_be_text" : Str) ∈ (["own", "acts", "shelf", "told"] : List Str) := by decide
theorem nf_House_next_mark : ¬ ("next_mark" : Str) ∈ (["own", "acts", "shelf", "told"] : List Str) := by decide
theorem nf_House_make : ¬ ("make" : Str) ∈ (["own", "acts", "shelf", "told"] : List Str) := by decide
theorem nf_House_there : ¬ ("there" : Str) ∈ (["own", "acts", "shelf", "told"] : List Str) := by decide
theorem nf_House_write : ¬ ("write" : Str) ∈ (["own", "acts", "shelf", "told"] : List Str) := by decide
theorem nf_House_rename : ¬ ("rename" : Str) ∈ (["own", "acts", "shelf", "told"] : List Str) := by decide
theorem nf_House_drop : ¬ ("drop" : Str) ∈ (["own", "acts", "shelf", "told"] : List Str) := by decide
def Gb (K : PySem.W.Frag) : Glob where
  cls := fun n => match n with
    | 0 => some (He.ga K "House")
    | _ => none
  flds := fun n => match n with
    | 0 => ["own", "acts", "shelf", "told"]
    | _ => []
  exc := fun n => match n with
    | 1 => some (He.ga K "NoFile")
    | 2 => some (He.ga K "NoName")
    | 3 => some (He.ga K "NoWords")
    | _ => none
  fn := fun n => match n with
    | 0 => some (He.ga K "is_name")
    | 1 => some (He.ga K "is_text")
    | _ => none
  K := K
section
variable {P : Program} {w : World} {K : PySem.W.Frag} {mg : Str → Option Value} {base : Heap}
theorem sc0 : FnScope ["_law_cell_here", "_law_prime", "_law_many"] ["_law_cell_here", "_law_prime", "_law_many"] (defScope s0) := ⟨rfl, rfl, rfl, by decide +kernel, rfl, by decide +kernel, by decide +kernel⟩
theorem ok_law_mix (E : Env K mg) : FnM P w K mg base (Gb K) 1 (He.ga K "_law_mix") 3 m_law_mix := by
  have sc := sc0
  obtain ⟨fd, D⟩ := E.D0
  exact FnM.of D sc (fun _ _ _ _ _ _ us hl => match us, hl with | [_, _, _], _ => rfl) (fun cdv A outer s H E0 hr =>
  mss_one (ms_ret (me_op om_mod (me_op om_mod (me_op om_mul (me_var (i := 0)) (me_int)) (me_var (i := 1))) (me_var (i := 2)))))
theorem sc1 : FnScope ["_law_cell_here", "_law_many", "_law_left_here", "_law_k"] ["_law_cell_here", "_law_many"] (defScope s1) := ⟨rfl, rfl, rfl, by decide +kernel, rfl, by decide +kernel, by decide +kernel⟩
theorem okr_law_perm (E : Env K mg) : FnM P w K mg base (Gb K) 2 (He.ga K "_law_perm") 2 m_law_perm := by
  have sc := sc1
  obtain ⟨fd, D⟩ := E.D1
  exact FnM.of D sc (fun _ _ _ _ _ _ us hl => match us, hl with | [_, _], _ => rfl) (fun cdv A outer s H E0 hr =>
  mss_cons (ms_set (i := 2) sc.nd (me_listRangeM rfl E.n_list E.n_range (me_var (i := 1))))
  (mss_one (ms_ret (me_lc (own := [("_law_k", 3)]) (.inl rfl) rfl sc.nd (mi_range1 rfl E.n_range (ma_cons (me_var (i := 1)) (ma_nil))) (blkOk_by (by kernel_rfl)) (fun _ _ _ _ _ => mg_name sc.nd) (fun _ _ _ _ _ => mts_nil) (fun _ _ _ _ _ => me_bm (T := .list) mm_pop PySem.F.plainAttrs_list PySem.F.slot_list_pop PySem.F.type_list_pop (me_var (i := 2)) (ma_cons (me_call (FnM.mono (ok_law_mix E) (by decide)) hr tk0 rfl E.g__law_mix (ma_cons (me_op om_add (me_var (i := 0)) (me_op om_mul (me_int) (me_var (i := 3)))) (ma_cons (me_int) (ma_cons (me_op om_sub (me_var (i := 1)) (me_var (i := 3))) (ma_nil)))) (al_cons (al_cons (al_cons al_nil)))) (ma_nil))) (by decide)))))
theorem ok_law_perm (E : Env K mg) : FnM P w K mg base (Gb K) 2 (He.ga K "_law_perm") 2 s_law_perm := (okr_law_perm E).le le_law_perm
theorem sc2 : FnScope ["_law_script", "_law_k"] ["_law_script", "_law_k"] (defScope s2) := ⟨rfl, rfl, rfl, by decide +kernel, rfl, by decide +kernel, by decide +kernel⟩
theorem ok_law_cell (E : Env K mg) : FnM P w K mg base (Gb K) 1 (He.ga K "_law_cell") 2 m_law_cell := by
  have sc := sc2
  obtain ⟨fd, D⟩ := E.D2
  exact FnM.of D sc (fun _ _ _ _ _ _ us hl => match us, hl with | [_, _], _ => rfl) (fun cdv A outer s H E0 hr =>
  mss_cons (ms_if (mt_cmp om_lt (me_var (i := 1)) (me_bi cm_len rfl E.n_len boot_len (ma_cons (me_var (i := 0)) (ma_nil))) (nomark _)) (mss_one (ms_ret (me_ix (om_ix hr.u1) (me_var (i := 0)) (me_var (i := 1))))) (mss_nil))
  (mss_one (ms_ret (me_int))))
theorem sc3 : FnScope ["self", "number"] ["self", "number"] (defScope s3) := ⟨rfl, rfl, rfl, by decide +kernel, rfl, by decide +kernel, by decide +kernel⟩
theorem ok_House_init (E : Env K mg) : FnM P w K mg base (Gb K) 1 (He.ma K (He.ga K "House") "__init__") 2 m_House_init := by
  have sc := sc3
  obtain ⟨fd, D⟩ := E.D3
  exact FnM.of D sc (fun _ _ _ _ _ _ us hl => match us, hl with | [_, _], _ => rfl) (fun cdv A outer s H E0 hr =>
  mss_cons (ms_fld (me_var (i := 0)) (me_var (i := 1)) rfl E.c_House E.na_House_own nd_House rfl)
  (mss_cons (ms_fld (me_var (i := 0)) (me_int) rfl E.c_House E.na_House_acts nd_House rfl)
  (mss_cons (ms_fld (me_var (i := 0)) (me_dictT) rfl E.c_House E.na_House_shelf nd_House rfl)
  (mss_one (ms_fld (me_var (i := 0)) (me_dictK) rfl E.c_House E.na_House_told nd_House rfl)))))
theorem sc4 : FnScope ["_law_script", "_law_many", "_law_numbers", "_law_number", "_law_k"] ["_law_script", "_law_many"] (defScope s4) := ⟨rfl, rfl, rfl, by decide +kernel, rfl, by decide +kernel, by decide +kernel⟩
theorem ok_law_start (E : Env K mg) : FnM P w K mg base (Gb K) 3 (He.ga K "_law_start") 2 m_law_start := by
  have sc := sc4
  obtain ⟨fd, D⟩ := E.D4
  exact FnM.of D sc (fun _ _ _ _ _ _ us hl => match us, hl with | [_, _], _ => rfl) (fun cdv A outer s H E0 hr =>
  mss_cons (ms_set (i := 2) sc.nd (mslice (me_call (FnM.mono (ok_law_perm E) (by decide)) hr (takes_of rfl rfl rfl rfl) rfl E.g__law_perm (ma_cons (me_call (FnM.mono (ok_law_cell E) (by decide)) hr (takes_of rfl rfl rfl rfl) rfl E.g__law_cell (ma_cons (me_var (i := 0)) (ma_cons (me_int) (ma_nil))) (al_cons (al_cons al_nil))) (ma_cons (me_int) (ma_nil))) (al_cons (al_cons al_nil))) (mo_none) (mo_some (me_var (i := 1)))))
  (mss_one (ms_ret (me_tup (ma_cons (me_lc (own := [("_law_number", 3)]) (.inr rfl) rfl sc.nd (mi_val (me_var (i := 2))) (blkOk_by (by kernel_rfl)) (fun _ _ _ _ _ => mg_name sc.nd) (fun _ _ _ _ _ => mts_nil) (fun _ _ _ _ _ => me_make E.mk_House rfl (FnM.mono (ok_House_init E) (by decide)) hr tk0 rfl E.g_House (ma_cons (me_var (i := 3)) (ma_nil)) (al_cons al_nil) nx_House_init) (by decide)) (ma_cons (me_var (i := 2)) (ma_cons (me_lc (own := [("_law_k", 4)]) (.inr rfl) rfl sc.nd (mi_val (me_var (i := 2))) (blkOk_by (by kernel_rfl)) (fun _ _ _ _ _ => mg_name sc.nd) (fun _ _ _ _ _ => mts_nil) (fun _ _ _ _ _ => me_int) (by decide)) (ma_cons (me_lstR (ma_nil)) (ma_cons (me_lc (own := [("_law_k", 4)]) (.inr rfl) rfl sc.nd (mi_val (me_var (i := 2))) (blkOk_by (by kernel_rfl)) (fun _ _ _ _ _ => mg_name sc.nd) (fun _ _ _ _ _ => mts_nil) (fun _ _ _ _ _ => me_dictK) (by decide)) (ma_nil))))))))))
theorem sc5 : FnScope ["_law_acts", "_law_book", "_law_which", "_law_mine", "_law_k", "_law_known", "_law_names", "_law_texts", "_law_mark", "_law_behind", "_law_j", "_law_heard", "_law_house"] ["_law_acts", "_law_book", "_law_which"] (defScope s5) := ⟨rfl, rfl, rfl, by decide +kernel, rfl, by decide +kernel, by decide +kernel⟩
theorem ok_law_left (E : Env K mg) : FnM P w K mg base (Gb K) 1 (He.ga K "_law_left") 3 m_law_left := by
  have sc := sc5
  obtain ⟨fd, D⟩ := E.D5
  exact FnM.of D sc (fun _ _ _ _ _ _ us hl => match us, hl with | [_, _, _], _ => rfl) (fun cdv A outer s H E0 hr =>
  mss_cons (ms_setLc (own := [("_law_k", 4)]) (.inl rfl) rfl sc.nd rfl rfl rfl (mi_val (me_bi (cm_sorted hr.u200 rfl) rfl E.n_sorted PyProof.Rows.boot_sorted (ma_cons (me_var (i := 1)) (ma_nil)))) (blkOk_by (by kernel_rfl)) (fun _ _ _ _ _ => mg_name sc.nd) (fun _ _ _ _ _ => mts_one (mt_cmp (om_eq hr.units) (me_ix (om_ix hr.u1) (me_ix (om_ix hr.u1) (me_var (i := 0)) (me_var (i := 4))) (me_int)) (me_var (i := 2)) (nomark _))) (fun _ _ _ _ _ => me_var (i := 4)) (by decide))
  (mss_cons (ms_set (i := 5) sc.nd (me_dictK))
  (mss_cons (ms_set (i := 6) sc.nd (me_lstR (ma_nil)))
  (mss_cons (ms_set (i := 7) sc.nd (me_lstR (ma_nil)))
  (mss_cons (ms_for (passes_of rfl) rfl (mi_val (me_var (i := 3))) (mg_name sc.nd) (mss_cons (ms_set (i := 8) sc.nd (me_ix (om_ix hr.u1) (me_ix (om_ix hr.u1) (me_var (i := 0)) (me_var (i := 4))) (me_int)))
  (mss_cons (ms_sub hr.u1 (me_var (i := 5)) (me_ix (om_ix hr.u1) (me_var (i := 8)) (me_int)) (me_bi (cm_max rfl) rfl E.n_max PyProof.Rows.boot_max (ma_cons (me_ix (om_ix hr.u1) (me_var (i := 8)) (me_int)) (ma_cons (me_get2 hr.u1 (me_var (i := 5)) (me_ix (om_ix hr.u1) (me_var (i := 8)) (me_int)) (me_int)) (ma_nil)))))
  (mss_cons (ms_setLc (own := [("_law_j", 10)]) (.inl rfl) rfl sc.nd rfl rfl rfl (mi_val (me_var (i := 3))) (blkOk_by (by kernel_rfl)) (fun _ _ _ _ _ => mg_name sc.nd) (fun _ _ _ _ _ => mts_one (mt_cmp (om_in hr.u65) (me_var (i := 4)) (me_ix (om_ix hr.u1) (me_ix (om_ix hr.u1) (me_var (i := 0)) (me_var (i := 10))) (me_int)) (by with_unfolding_all rfl))) (fun _ _ _ _ _ => me_ix (om_ix hr.u1) (me_ix (om_ix hr.u1) (me_var (i := 0)) (me_var (i := 10))) (me_int)) (by decide))
  (mss_cons (ms_if (MW.mt (mw_and (mt_cmp (om_eq hr.units) (me_ix (om_ix hr.u1) (me_ix (om_ix hr.u1) (me_var (i := 0)) (me_var (i := 4))) (me_int)) (me_str) (nomark _)) (mw_and (mt_cmp (om_notIn hr.u65) (me_str) (me_var (i := 9)) (by with_unfolding_all rfl)) (mw_and1 (mt_cmp (om_notIn hr.u65) (me_str) (me_var (i := 9)) (by with_unfolding_all rfl)))))) (mss_one (ms_expr (me_bm (T := .list) mm_append PySem.F.plainAttrs_list PySem.F.slot_list_append PySem.F.type_list_append (me_var (i := 6)) (ma_cons (me_tup (ma_cons (me_var (i := 8)) (ma_cons (me_ix (om_ix hr.u1) (me_ix (om_ix hr.u1) (me_var (i := 0)) (me_var (i := 4))) (me_int)) (ma_nil)))) (ma_nil))))) (mss_nil))
  (mss_one (ms_if (MW.mt (mw_and (mt_cmp (om_in hr.u65) (me_ix (om_ix hr.u1) (me_ix (om_ix hr.u1) (me_var (i := 0)) (me_var (i := 4))) (me_int)) (me_tup (ma_cons (me_str) (ma_cons (me_str) (ma_nil)))) (by with_unfolding_all rfl)) (mw_and (mt_cmp (om_notIn hr.u65) (me_str) (me_var (i := 9)) (by with_unfolding_all rfl)) (mw_and1 (mt_cmp (om_notIn hr.u65) (me_str) (me_var (i := 9)) (by with_unfolding_all rfl)))))) (mss_one (ms_expr (me_bm (T := .list) mm_append PySem.F.plainAttrs_list PySem.F.slot_list_append PySem.F.type_list_append (me_var (i := 7)) (ma_cons (me_tup (ma_cons (me_var (i := 8)) (ma_cons (me_ix (om_ix hr.u1) (me_ix (om_ix hr.u1) (me_var (i := 0)) (me_var (i := 4))) (me_int)) (ma_nil)))) (ma_nil))))) (mss_nil))))))))
  (mss_cons (ms_set (i := 11) sc.nd (me_biT cm_tuple rfl E.n_tuple PyProof.Rows.boot_tuple (ma_cons (me_lc (own := [("_law_house", 12)]) (.inl rfl) rfl sc.nd (mi_val (me_bi (cm_sorted hr.u200 rfl) rfl E.n_sorted PyProof.Rows.boot_sorted (ma_cons (me_var (i := 5)) (ma_nil)))) (blkOk_by (by kernel_rfl)) (fun _ _ _ _ _ => mg_name sc.nd) (fun _ _ _ _ _ => mts_nil) (fun _ _ _ _ _ => me_tup (ma_cons (me_var (i := 12)) (ma_cons (me_ix (om_ix hr.u1) (me_var (i := 5)) (me_var (i := 12))) (ma_nil)))) (by decide)) (ma_nil))))
  (mss_one (ms_ret (me_tup (ma_cons (me_var (i := 2)) (ma_cons (me_ix (om_ix hr.u1) (me_ix (om_ix hr.u1) (me_var (i := 0)) (me_ix (om_ix hr.u1) (me_var (i := 3)) (me_int))) (me_int)) (ma_cons (me_var (i := 11)) (ma_cons (me_biT cm_tuple rfl E.n_tuple PyProof.Rows.boot_tuple (ma_cons (me_bi (cm_sorted hr.u200 rfl) rfl E.n_sorted PyProof.Rows.boot_sorted (ma_cons (me_var (i := 6)) (ma_nil))) (ma_nil))) (ma_cons (me_biT cm_tuple rfl E.n_tuple PyProof.Rows.boot_tuple (ma_cons (me_bi (cm_sorted hr.u200 rfl) rfl E.n_sorted PyProof.Rows.boot_sorted (ma_cons (me_var (i := 7)) (ma_nil))) (ma_nil))) (ma_nil)))))))))))))))
theorem sc6 : FnScope ["_law_state", "_law_at", "_law_acts", "_law_book", "_law_which", "_law_k"] ["_law_state", "_law_at"] (defScope s6) := ⟨rfl, rfl, rfl, by decide +kernel, rfl, by decide +kernel, by decide +kernel⟩
theorem ok_law_files (E : Env K mg) : FnM P w K mg base (Gb K) 2 (He.ga K "_law_files") 2 m_law_files := by
  have sc := sc6
  obtain ⟨fd, D⟩ := E.D6
  exact FnM.of D sc (fun _ _ _ _ _ _ us hl => match us, hl with | [_, _], _ => rfl) (fun cdv A outer s H E0 hr =>
  mss_cons (ms_set (i := 2) sc.nd (me_ix (om_ix hr.u1) (me_var (i := 0)) (me_int)))
  (mss_cons (ms_set (i := 3) sc.nd (me_ix (om_ix hr.u1) (me_ix (om_ix hr.u1) (me_var (i := 0)) (me_int)) (me_var (i := 1))))
  (mss_one (ms_ret (me_lc (own := [("_law_which", 4)]) (.inl rfl) rfl sc.nd (mi_val (me_sortSet hr.u200 rfl E.n_sorted E.n_set (me_lock (which := eVar 3) (me_lc (own := [("_law_k", 5)]) (.inl rfl) rfl sc.nd (mi_keys (me_var (i := 3))) (blkOk_by (by kernel_rfl)) (fun _ _ _ _ _ => mg_name sc.nd) (fun _ _ _ _ _ => mts_nil) (fun _ _ _ _ _ => me_ix (om_ix hr.u1) (me_ix (om_ix hr.u1) (me_var (i := 2)) (me_var (i := 5))) (me_int)) (by decide))))) (blkOk_by (by kernel_rfl)) (fun _ _ _ _ _ => mg_name sc.nd) (fun _ _ _ _ _ => mts_nil) (fun _ _ _ _ _ => me_call (FnM.mono (ok_law_left E) (by decide)) hr tk0 rfl E.g__law_left (ma_cons (me_var (i := 2)) (ma_cons (me_var (i := 3)) (ma_cons (me_var (i := 4)) (ma_nil)))) (al_cons (al_cons (al_cons al_nil)))) (by decide))))))
theorem sc7 : FnScope ["_law_found", "_law_due", "_law_one", "_law_other"] ["_law_found", "_law_due"] (defScope s7) := ⟨rfl, rfl, rfl, by decide +kernel, rfl, by decide +kernel, by decide +kernel⟩
theorem okr_law_same (E : Env K mg) : ∀ d : Nat, FnM P w K mg base (Gb K) (1 + d) (He.ga K "_law_same") 2 (m_law_same d)
  | 0 => by
    have sc := sc7
    obtain ⟨fd, D⟩ := E.D7
    exact FnM.mono (FnM.bad D sc (fun _ _ _ _ _ _ us hl => match us, hl with | [_, _], _ => rfl)) (Nat.zero_le _)
  | d + 1 => by
    have sc := sc7
    obtain ⟨fd, D⟩ := E.D7
    have ih := okr_law_same E d
    exact FnM.of (k := 1 + d) D sc (fun _ _ _ _ _ _ us hl => match us, hl with | [_, _], _ => rfl) (fun cdv A outer s H E0 hr =>
  mss_cons (ms_if (mt_tru (me_bi cm_isi rfl E.n_isinstance PyProof.Rows.boot_isinstance (ma_cons (me_var (i := 1)) (ma_cons (me_ty rfl E.n_tuple PyProof.Rows.boot_tuple) (ma_nil))))) (mss_cons (ms_if (MW.mt (mw_or (mt_not (mt_tru (me_bi cm_isi rfl E.n_isinstance PyProof.Rows.boot_isinstance (ma_cons (me_var (i := 0)) (ma_cons (me_ty rfl E.n_tuple PyProof.Rows.boot_tuple) (ma_nil)))))) (mw_or1 (mt_cmp (om_ne hr.units) (me_bi cm_len rfl E.n_len boot_len (ma_cons (me_var (i := 0)) (ma_nil))) (me_bi cm_len rfl E.n_len boot_len (ma_cons (me_var (i := 1)) (ma_nil))) (nomark _))))) (mss_one (ms_ret (me_bl))) (mss_nil))
  (mss_one (ms_ret (me_bi (cm_all rfl) rfl E.n_all PyProof.Rows.boot_all (ma_cons (me_lc (own := [("_law_one", 2), ("_law_other", 3)]) (.inl rfl) rfl sc.nd (mi_zip rfl E.n_zip (ma_cons (me_var (i := 0)) (ma_cons (me_var (i := 1)) (ma_nil)))) (blkOk_by (by kernel_rfl)) (fun _ _ _ _ _ => mg_tup rfl (mgs_cons (mg_name sc.nd) (mgs_cons (mg_name sc.nd) (mgs_nil)))) (fun _ _ _ _ _ => mts_nil) (fun _ _ _ _ _ => me_call (FnM.mono ih (by omega)) hr tk0 rfl E.g__law_same (ma_cons (me_var (i := 2)) (ma_cons (me_var (i := 3)) (ma_nil))) (al_cons (al_cons al_nil))) (by decide)) (ma_nil)))))) (mss_nil))
  (mss_cons (ms_if (mt_cmp om_is (me_var (i := 1)) (me_non) (nomark _)) (mss_one (ms_ret (me_cmp om_is (me_var (i := 0)) (me_non) (nomark _)))) (mss_nil))
  (mss_cons (ms_if (MW.mt (mw_or (mt_tru (me_bi cm_isi rfl E.n_isinstance PyProof.Rows.boot_isinstance (ma_cons (me_var (i := 1)) (ma_cons (me_ty rfl E.n_bool PyProof.Rows.boot_bool) (ma_nil))))) (mw_or1 (mt_tru (me_bi cm_isi rfl E.n_isinstance PyProof.Rows.boot_isinstance (ma_cons (me_var (i := 0)) (ma_cons (me_ty rfl E.n_bool PyProof.Rows.boot_bool) (ma_nil)))))))) (mss_one (ms_ret (me_and (me_bi cm_isi rfl E.n_isinstance PyProof.Rows.boot_isinstance (ma_cons (me_var (i := 1)) (ma_cons (me_ty rfl E.n_bool PyProof.Rows.boot_bool) (ma_nil)))) (me_and (me_bi cm_isi rfl E.n_isinstance PyProof.Rows.boot_isinstance (ma_cons (me_var (i := 0)) (ma_cons (me_ty rfl E.n_bool PyProof.Rows.boot_bool) (ma_nil)))) (me_one (me_cmp (om_eq hr.units) (me_var (i := 0)) (me_var (i := 1)) (nomark _))))))) (mss_nil))
  (mss_one (ms_ret (me_and (me_bi cm_isi rfl E.n_isinstance PyProof.Rows.boot_isinstance (ma_cons (me_var (i := 0)) (ma_cons (me_tup (ma_cons (me_ty rfl E.n_int PyProof.Rows.boot_int) (ma_cons (me_ty rfl E.n_str PyProof.Rows.boot_str) (ma_nil)))) (ma_nil)))) (me_one (me_cmp (om_eq hr.units) (me_var (i := 0)) (me_var (i := 1)) (nomark _)))))))))
theorem ok_law_same (E : Env K mg) : FnM P w K mg base (Gb K) 32 (He.ga K "_law_same") 2 s_law_same := (okr_law_same E 31).le le_law_same
theorem sc8 : FnScope ["file"] ["file"] (defScope s8) := ⟨rfl, rfl, rfl, by decide +kernel, rfl, by decide +kernel, by decide +kernel⟩
theorem ok_is_gone (E : Env K mg) : FnM P w K mg base (Gb K) 1 (He.ga K "is_gone") 1 m_is_gone := by
  have sc := sc8
  obtain ⟨fd, D⟩ := E.D8
  exact FnM.of D sc (fun _ _ _ _ _ _ us hl => match us, hl with | [_], _ => rfl) (fun cdv A outer s H E0 hr =>
  mss_one (ms_ret (me_cmp (om_eq hr.units) (me_bi cm_len rfl E.n_len boot_len (ma_cons (me_ix (om_ix hr.u1) (me_var (i := 0)) (me_int)) (ma_nil))) (me_int) (nomark _))))
theorem sc9 : FnScope ["self", "which"] ["self"] (defScope s9) := ⟨rfl, rfl, rfl, by decide +kernel, rfl, by decide +kernel, by decide +kernel⟩
theorem ok_House_ids (E : Env K mg) : FnM P w K mg base (Gb K) 2 (He.ma K (He.ga K "House") "ids") 1 m_House_ids := by
  have sc := sc9
  obtain ⟨fd, D⟩ := E.D9
  exact FnM.of D sc (fun _ _ _ _ _ _ us hl => match us, hl with | [_], _ => rfl) (fun cdv A outer s H E0 hr =>
  mss_one (ms_ret (me_biT cm_tuple rfl E.n_tuple PyProof.Rows.boot_tuple (ma_cons (me_lc (own := [("which", 1)]) (.inl rfl) rfl sc.nd (mi_val (me_bi (cm_sorted hr.u200 rfl) rfl E.n_sorted PyProof.Rows.boot_sorted (ma_cons (me_fld (me_var (i := 0)) rfl E.c_House E.na_House_shelf nd_House rfl) (ma_nil)))) (blkOk_by (by kernel_rfl)) (fun _ _ _ _ _ => mg_name sc.nd) (fun _ _ _ _ _ => mts_one (mt_not (mt_tru (me_call (FnM.mono (ok_is_gone E) (by decide)) hr tk0 rfl E.g_is_gone (ma_cons (me_ix (om_ix hr.u1) (me_fld (me_var (i := 0)) rfl E.c_House E.na_House_shelf nd_House rfl) (me_var (i := 1))) (ma_nil)) (al_cons al_nil))))) (fun _ _ _ _ _ => me_var (i := 1)) (by decide)) (ma_nil)))))
theorem sc10 : FnScope ["self", "which"] ["self"] (defScope s10) := ⟨rfl, rfl, rfl, by decide +kernel, rfl, by decide +kernel, by decide +kernel⟩
theorem ok_House_gone (E : Env K mg) : FnM P w K mg base (Gb K) 2 (He.ma K (He.ga K "House") "gone") 1 m_House_gone := by
  have sc := sc10
  obtain ⟨fd, D⟩ := E.D10
  exact FnM.of D sc (fun _ _ _ _ _ _ us hl => match us, hl with | [_], _ => rfl) (fun cdv A outer s H E0 hr =>
  mss_one (ms_ret (me_biT cm_tuple rfl E.n_tuple PyProof.Rows.boot_tuple (ma_cons (me_lc (own := [("which", 1)]) (.inl rfl) rfl sc.nd (mi_val (me_bi (cm_sorted hr.u200 rfl) rfl E.n_sorted PyProof.Rows.boot_sorted (ma_cons (me_fld (me_var (i := 0)) rfl E.c_House E.na_House_shelf nd_House rfl) (ma_nil)))) (blkOk_by (by kernel_rfl)) (fun _ _ _ _ _ => mg_name sc.nd) (fun _ _ _ _ _ => mts_one (mt_tru (me_call (FnM.mono (ok_is_gone E) (by decide)) hr tk0 rfl E.g_is_gone (ma_cons (me_ix (om_ix hr.u1) (me_fld (me_var (i := 0)) rfl E.c_House E.na_House_shelf nd_House rfl) (me_var (i := 1))) (ma_nil)) (al_cons al_nil)))) (fun _ _ _ _ _ => me_var (i := 1)) (by decide)) (ma_nil)))))
theorem sc11 : FnScope ["self", "which"] ["self"] (defScope s11) := ⟨rfl, rfl, rfl, by decide +kernel, rfl, by decide +kernel, by decide +kernel⟩
theorem ok_House_heard (E : Env K mg) : FnM P w K mg base (Gb K) 1 (He.ma K (He.ga K "House") "heard") 1 m_House_heard := by
  have sc := sc11
  obtain ⟨fd, D⟩ := E.D11
  exact FnM.of D sc (fun _ _ _ _ _ _ us hl => match us, hl with | [_], _ => rfl) (fun cdv A outer s H E0 hr =>
  mss_one (ms_ret (me_biT cm_tuple rfl E.n_tuple PyProof.Rows.boot_tuple (ma_cons (me_lc (own := [("which", 1)]) (.inl rfl) rfl sc.nd (mi_val (me_bi (cm_sorted hr.u200 rfl) rfl E.n_sorted PyProof.Rows.boot_sorted (ma_cons (me_fld (me_var (i := 0)) rfl E.c_House E.na_House_shelf nd_House rfl) (ma_nil)))) (blkOk_by (by kernel_rfl)) (fun _ _ _ _ _ => mg_name sc.nd) (fun _ _ _ _ _ => mts_nil) (fun _ _ _ _ _ => me_tup (ma_cons (me_var (i := 1)) (ma_cons (me_ix (om_ix hr.u1) (me_ix (om_ix hr.u1) (me_fld (me_var (i := 0)) rfl E.c_House E.na_House_shelf nd_House rfl) (me_var (i := 1))) (me_int)) (ma_nil)))) (by decide)) (ma_nil)))))
theorem sc12 : FnScope ["self"] ["self"] (defScope s12) := ⟨rfl, rfl, rfl, by decide +kernel, rfl, by decide +kernel, by decide +kernel⟩
theorem ok_House_count (E : Env K mg) : FnM P w K mg base (Gb K) 1 (He.ma K (He.ga K "House") "count") 1 m_House_count := by
  have sc := sc12
  obtain ⟨fd, D⟩ := E.D12
  exact FnM.of D sc (fun _ _ _ _ _ _ us hl => match us, hl with | [_], _ => rfl) (fun cdv A outer s H E0 hr =>
  mss_one (ms_ret (me_fld (me_var (i := 0)) rfl E.c_House E.na_House_acts nd_House rfl)))
theorem sc13 : FnScope ["self"] ["self"] (defScope s13) := ⟨rfl, rfl, rfl, by decide +kernel, rfl, by decide +kernel, by decide +kernel⟩
theorem ok_House_number (E : Env K mg) : FnM P w K mg base (Gb K) 1 (He.ma K (He.ga K "House") "number") 1 m_House_number := by
  have sc := sc13
  obtain ⟨fd, D⟩ := E.D13
  exact FnM.of D sc (fun _ _ _ _ _ _ us hl => match us, hl with | [_], _ => rfl) (fun cdv A outer s H E0 hr =>
  mss_one (ms_ret (me_fld (me_var (i := 0)) rfl E.c_House E.na_House_own nd_House rfl)))
theorem sc14 : FnScope ["self", "which"] ["self", "which"] (defScope s14) := ⟨rfl, rfl, rfl, by decide +kernel, rfl, by decide +kernel, by decide +kernel⟩
theorem ok_House_file (E : Env K mg) : FnM P w K mg base (Gb K) 1 (He.ma K (He.ga K "House") "file") 2 m_House_file := by
  have sc := sc14
  obtain ⟨fd, D⟩ := E.D14
  exact FnM.of D sc (fun _ _ _ _ _ _ us hl => match us, hl with | [_, _], _ => rfl) (fun cdv A outer s H E0 hr =>
  mss_cons (ms_if (mt_cmp (om_notIn hr.u65) (me_var (i := 1)) (me_fld (me_var (i := 0)) rfl E.c_House E.na_House_shelf nd_House rfl) (by with_unfolding_all rfl)) (mss_one (ms_raise rfl (takes_of rfl rfl rfl rfl) PySem.F.excBase_ValueError E.x_NoFile rfl E.g_NoFile E.k_NoFile (raises_own E.sb_NoFile E.ty_NoFile) rfl)) (mss_nil))
  (mss_one (ms_ret (me_ix (om_ix hr.u1) (me_fld (me_var (i := 0)) rfl E.c_House E.na_House_shelf nd_House rfl) (me_var (i := 1))))))
theorem sc15 : FnScope ["_law_state", "_law_at", "_law_house", "_law_files_here", "_law_file"] ["_law_state", "_law_at"] (defScope s15) := ⟨rfl, rfl, rfl, by decide +kernel, rfl, by decide +kernel, by decide +kernel⟩
theorem ok_law_is_right_v2 (E : Env K mg) : FnM P w K mg base (Gb K) 33 (He.ga K "_law_is_right") 2 m_law_is_right_v2 := by
  have sc := sc15
  obtain ⟨fd, D⟩ := E.D15
  exact FnM.of D sc (fun _ _ _ _ _ _ us hl => match us, hl with | [_, _], _ => rfl) (fun cdv A outer s H E0 hr =>
  mss_cons (ms_set (i := 2) sc.nd (me_ix (om_ix hr.u1) (me_ix (om_ix hr.u1) (me_var (i := 0)) (me_int)) (me_var (i := 1))))
  (mss_cons (ms_set (i := 3) sc.nd (me_call (FnM.mono (ok_law_files E) (by decide)) hr (takes_of rfl rfl rfl rfl) rfl E.g__law_files (ma_cons (me_var (i := 0)) (ma_cons (me_var (i := 1)) (ma_nil))) (al_cons (al_cons al_nil))))
  (mss_cons (ms_if (mt_not (mt_tru (me_bi (cm_all rfl) rfl E.n_all PyProof.Rows.boot_all (ma_cons (me_lc (own := [("_law_file", 4)]) (.inl rfl) rfl sc.nd (mi_val (me_var (i := 3))) (blkOk_by (by kernel_rfl)) (fun _ _ _ _ _ => mg_name sc.nd) (fun _ _ _ _ _ => mts_nil) (fun _ _ _ _ _ => me_call (FnM.mono (ok_law_same E) (by decide)) hr tk0 rfl E.g__law_same (ma_cons (me_meth (me_var (i := 2)) rfl E.c_House E.m_House_file nf_House_file (FnM.mono (ok_House_file E) (by decide)) hr tk0 (ma_cons (me_ix (om_ix hr.u1) (me_var (i := 4)) (me_int)) (ma_nil)) (al_cons al_nil)) (ma_cons (me_var (i := 4)) (ma_nil))) (al_cons (al_cons al_nil))) (by decide)) (ma_nil))))) (mss_one (ms_ret (me_bl))) (mss_nil))
  (mss_cons (ms_if (mt_not (mt_tru (me_call (FnM.mono (ok_law_same E) (by decide)) hr (takes_of rfl rfl rfl rfl) rfl E.g__law_same (ma_cons (me_meth0 (me_var (i := 2)) rfl E.c_House E.m_House_ids nf_House_ids (FnM.mono (ok_House_ids E) (by decide)) hr (takes_of rfl rfl rfl rfl)) (ma_cons (me_biT cm_tuple rfl E.n_tuple PyProof.Rows.boot_tuple (ma_cons (me_lc (own := [("_law_file", 4)]) (.inl rfl) rfl sc.nd (mi_val (me_var (i := 3))) (blkOk_by (by kernel_rfl)) (fun _ _ _ _ _ => mg_name sc.nd) (fun _ _ _ _ _ => mts_one (mt_tru (me_ix (om_ix hr.u1) (me_var (i := 4)) (me_int)))) (fun _ _ _ _ _ => me_ix (om_ix hr.u1) (me_var (i := 4)) (me_int)) (by decide)) (ma_nil))) (ma_nil))) (al_cons (al_cons al_nil))))) (mss_one (ms_ret (me_bl))) (mss_nil))
  (mss_cons (ms_if (mt_not (mt_tru (me_call (FnM.mono (ok_law_same E) (by decide)) hr (takes_of rfl rfl rfl rfl) rfl E.g__law_same (ma_cons (me_meth0 (me_var (i := 2)) rfl E.c_House E.m_House_gone nf_House_gone (FnM.mono (ok_House_gone E) (by decide)) hr (takes_of rfl rfl rfl rfl)) (ma_cons (me_biT cm_tuple rfl E.n_tuple PyProof.Rows.boot_tuple (ma_cons (me_lc (own := [("_law_file", 4)]) (.inl rfl) rfl sc.nd (mi_val (me_var (i := 3))) (blkOk_by (by kernel_rfl)) (fun _ _ _ _ _ => mg_name sc.nd) (fun _ _ _ _ _ => mts_one (mt_not (mt_tru (me_ix (om_ix hr.u1) (me_var (i := 4)) (me_int))))) (fun _ _ _ _ _ => me_ix (om_ix hr.u1) (me_var (i := 4)) (me_int)) (by decide)) (ma_nil))) (ma_nil))) (al_cons (al_cons al_nil))))) (mss_one (ms_ret (me_bl))) (mss_nil))
  (mss_cons (ms_if (mt_not (mt_tru (me_call (FnM.mono (ok_law_same E) (by decide)) hr (takes_of rfl rfl rfl rfl) rfl E.g__law_same (ma_cons (me_meth0 (me_var (i := 2)) rfl E.c_House E.m_House_heard nf_House_heard (FnM.mono (ok_House_heard E) (by decide)) hr (takes_of rfl rfl rfl rfl)) (ma_cons (me_biT cm_tuple rfl E.n_tuple PyProof.Rows.boot_tuple (ma_cons (me_lc (own := [("_law_file", 4)]) (.inl rfl) rfl sc.nd (mi_val (me_var (i := 3))) (blkOk_by (by kernel_rfl)) (fun _ _ _ _ _ => mg_name sc.nd) (fun _ _ _ _ _ => mts_nil) (fun _ _ _ _ _ => me_tup (ma_cons (me_ix (om_ix hr.u1) (me_var (i := 4)) (me_int)) (ma_cons (me_ix (om_ix hr.u1) (me_var (i := 4)) (me_int)) (ma_nil)))) (by decide)) (ma_nil))) (ma_nil))) (al_cons (al_cons al_nil))))) (mss_one (ms_ret (me_bl))) (mss_nil))
  (mss_one (ms_ret (me_and (me_call (FnM.mono (ok_law_same E) (by decide)) hr (takes_of rfl rfl rfl rfl) rfl E.g__law_same (ma_cons (me_meth0 (me_var (i := 2)) rfl E.c_House E.m_House_count nf_House_count (FnM.mono (ok_House_count E) (by decide)) hr (takes_of rfl rfl rfl rfl)) (ma_cons (me_ix (om_ix hr.u1) (me_ix (om_ix hr.u1) (me_var (i := 0)) (me_int)) (me_var (i := 1))) (ma_nil))) (al_cons (al_cons al_nil))) (me_one (me_call (FnM.mono (ok_law_same E) (by decide)) hr (takes_of rfl rfl rfl rfl) rfl E.g__law_same (ma_cons (me_meth0 (me_var (i := 2)) rfl E.c_House E.m_House_number nf_House_number (FnM.mono (ok_House_number E) (by decide)) hr (takes_of rfl rfl rfl rfl)) (ma_cons (me_ix (om_ix hr.u1) (me_ix (om_ix hr.u1) (me_var (i := 0)) (me_int)) (me_var (i := 1))) (ma_nil))) (al_cons (al_cons al_nil)))))))))))))
theorem sc16 : FnScope ["_law_state", "_law_out", "_law_at", "_law_which", "_law_house"] ["_law_state", "_law_out"] (defScope s16) := ⟨rfl, rfl, rfl, by decide +kernel, rfl, by decide +kernel, by decide +kernel⟩
theorem ok_law_is_out (E : Env K mg) : FnM P w K mg base (Gb K) 34 (He.ga K "_law_is_out") 2 m_law_is_out := by
  have sc := sc16
  obtain ⟨fd, D⟩ := E.D16
  exact FnM.of D sc (fun _ _ _ _ _ _ us hl => match us, hl with | [_, _], _ => rfl) (fun cdv A outer s H E0 hr =>
  mss_cons (ms_lock (which := eVar 1) (ms_for (passes_of rfl) rfl (mi_keysQ (me_var (i := 1))) (mg_tup rfl (mgs_cons (mg_name sc.nd) (mgs_cons (mg_name sc.nd) (mgs_nil)))) (mss_one (ms_if (MW.mt (mw_or (mt_tru (me_bi (cm_any rfl) rfl E.n_any PyProof.Rows.boot_any (ma_cons (me_lc (own := [("_law_house", 4)]) (.inl rfl) rfl sc.nd (mi_val (me_ix (om_ix hr.u1) (me_var (i := 0)) (me_int))) (blkOk_by (by kernel_rfl)) (fun _ _ _ _ _ => mg_name sc.nd) (fun _ _ _ _ _ => mts_nil) (fun _ _ _ _ _ => me_cmp (om_in hr.u65) (me_var (i := 3)) (me_meth0 (me_var (i := 4)) rfl E.c_House E.m_House_ids nf_House_ids (FnM.mono (ok_House_ids E) (by decide)) hr tk0) (by with_unfolding_all rfl)) (by decide)) (ma_nil)))) (mw_or1 (mt_cmp (om_in hr.u65) (me_var (i := 3)) (me_meth0 (me_ix (om_ix hr.u1) (me_ix (om_ix hr.u1) (me_var (i := 0)) (me_int)) (me_var (i := 2))) rfl E.c_House E.m_House_gone nf_House_gone (FnM.mono (ok_House_gone E) (by decide)) hr (takes_of rfl rfl rfl rfl)) (by with_unfolding_all rfl))))) (mss_one (ms_ret (me_bl))) (mss_nil)))))
  (mss_one (ms_ret (me_bi (cm_all rfl) rfl E.n_all PyProof.Rows.boot_all (ma_cons (me_lc (own := [("_law_at", 2)]) (.inl rfl) rfl sc.nd (mi_range1 rfl E.n_range (ma_cons (me_int) (ma_nil))) (blkOk_by (by kernel_rfl)) (fun _ _ _ _ _ => mg_name sc.nd) (fun _ _ _ _ _ => mts_nil) (fun _ _ _ _ _ => me_call (FnM.mono (ok_law_is_right_v2 E) (by decide)) hr tk0 rfl E.g__law_is_right (ma_cons (me_var (i := 0)) (ma_cons (me_var (i := 2)) (ma_nil))) (al_cons (al_cons al_nil))) (by decide)) (ma_nil))))))
theorem sc17 : FnScope ["self", "number", "heard", "which", "known"] ["self", "number", "heard"] (defScope s17) := ⟨rfl, rfl, rfl, by decide +kernel, rfl, by decide +kernel, by decide +kernel⟩
theorem ok_House_told_by (E : Env K mg) : FnM P w K mg base (Gb K) 1 (He.ma K (He.ga K "House") "told_by") 3 m_House_told_by := by
  have sc := sc17
  obtain ⟨fd, D⟩ := E.D17
  exact FnM.of D sc (fun _ _ _ _ _ _ us hl => match us, hl with | [_, _, _], _ => rfl) (fun cdv A outer s H E0 hr =>
  mss_one (ms_sub hr.u1 (me_fld (me_var (i := 0)) rfl E.c_House E.na_House_told nd_House rfl) (me_var (i := 1)) (me_biT (cm_dictT rfl hr.u65) rfl E.n_dict PyProof.Rows.boot_dict (ma_cons (me_lc (own := [("which", 3), ("known", 4)]) (.inl rfl) rfl sc.nd (mi_val (me_var (i := 2))) (blkOk_by (by kernel_rfl)) (fun _ _ _ _ _ => mg_tup rfl (mgs_cons (mg_name sc.nd) (mgs_cons (mg_name sc.nd) (mgs_nil)))) (fun _ _ _ _ _ => mts_nil) (fun _ _ _ _ _ => me_tup (ma_cons (me_var (i := 3)) (ma_cons (me_var (i := 4)) (ma_nil)))) (by decide)) (ma_nil)))))
theorem sc18 : FnScope ["one", "other", "counts", "house", "count"] ["one", "other"] (defScope s18) := ⟨rfl, rfl, rfl, by decide +kernel, rfl, by decide +kernel, by decide +kernel⟩
theorem okr_known_together (E : Env K mg) : FnM P w K mg base (Gb K) 1 (He.ga K "known_together") 2 m_known_together := by
  have sc := sc18
  obtain ⟨fd, D⟩ := E.D18
  exact FnM.of D sc (fun _ _ _ _ _ _ us hl => match us, hl with | [_, _], _ => rfl) (fun cdv A outer s H E0 hr =>
  mss_cons (ms_set (i := 2) sc.nd (me_biT (cm_dictK rfl) rfl E.n_dict PyProof.Rows.boot_dict (ma_cons (me_lc (own := [("house", 3), ("count", 4)]) (.inl rfl) rfl sc.nd (mi_val (me_var (i := 0))) (blkOk_by (by kernel_rfl)) (fun _ _ _ _ _ => mg_tup rfl (mgs_cons (mg_name sc.nd) (mgs_cons (mg_name sc.nd) (mgs_nil)))) (fun _ _ _ _ _ => mts_nil) (fun _ _ _ _ _ => me_tup (ma_cons (me_var (i := 3)) (ma_cons (me_var (i := 4)) (ma_nil)))) (by decide)) (ma_nil))))
  (mss_cons (ms_for (passes_of rfl) rfl (mi_val (me_var (i := 1))) (mg_tup rfl (mgs_cons (mg_name sc.nd) (mgs_cons (mg_name sc.nd) (mgs_nil)))) (mss_one (ms_sub hr.u1 (me_var (i := 2)) (me_var (i := 3)) (me_bi (cm_max rfl) rfl E.n_max PyProof.Rows.boot_max (ma_cons (me_var (i := 4)) (ma_cons (me_get2 hr.u1 (me_var (i := 2)) (me_var (i := 3)) (me_int)) (ma_nil)))))))
  (mss_one (ms_ret (me_biT cm_tuple rfl E.n_tuple PyProof.Rows.boot_tuple (ma_cons (me_bi (cm_sorted hr.u200 rfl) rfl E.n_sorted PyProof.Rows.boot_sorted (ma_cons (me_lock (which := eVar 2) (me_lc (own := [("house", 3)]) (.inl rfl) rfl sc.nd (mi_keys (me_var (i := 2))) (blkOk_by (by kernel_rfl)) (fun _ _ _ _ _ => mg_name sc.nd) (fun _ _ _ _ _ => mts_nil) (fun _ _ _ _ _ => me_tup (ma_cons (me_var (i := 3)) (ma_cons (me_ix (om_ix hr.u1) (me_var (i := 2)) (me_var (i := 3))) (ma_nil)))) (by decide))) (ma_nil))) (ma_nil)))))))
theorem ok_known_together (E : Env K mg) : FnM P w K mg base (Gb K) 1 (He.ga K "known_together") 2 s_known_together := (okr_known_together E).le le_known_together
theorem sc19 : FnScope ["mark", "known", "house", "count"] ["mark", "known"] (defScope s19) := ⟨rfl, rfl, rfl, by decide +kernel, rfl, by decide +kernel, by decide +kernel⟩
theorem ok_is_within (E : Env K mg) : FnM P w K mg base (Gb K) 1 (He.ga K "is_within") 2 m_is_within := by
  have sc := sc19
  obtain ⟨fd, D⟩ := E.D19
  exact FnM.of D sc (fun _ _ _ _ _ _ us hl => match us, hl with | [_, _], _ => rfl) (fun cdv A outer s H E0 hr =>
  mss_one (ms_ret (me_bi (cm_any rfl) rfl E.n_any PyProof.Rows.boot_any (ma_cons (me_lc (own := [("house", 2), ("count", 3)]) (.inl rfl) rfl sc.nd (mi_val (me_var (i := 1))) (blkOk_by (by kernel_rfl)) (fun _ _ _ _ _ => mg_tup rfl (mgs_cons (mg_name sc.nd) (mgs_cons (mg_name sc.nd) (mgs_nil)))) (fun _ _ _ _ _ => mts_nil) (fun _ _ _ _ _ => me_and (me_cmp (om_eq hr.units) (me_var (i := 2)) (me_ix (om_ix hr.u1) (me_var (i := 0)) (me_int)) (nomark _)) (me_one (me_cmp om_ge (me_var (i := 3)) (me_ix (om_ix hr.u1) (me_var (i := 0)) (me_int)) (nomark _)))) (by decide)) (ma_nil)))))
theorem sc20 : FnScope ["mine", "yours", "known", "pair"] ["mine", "yours", "known"] (defScope s20) := ⟨rfl, rfl, rfl, by decide +kernel, rfl, by decide +kernel, by decide +kernel⟩
theorem ok_kept_of (E : Env K mg) : FnM P w K mg base (Gb K) 2 (He.ga K "kept_of") 3 m_kept_of := by
  have sc := sc20
  obtain ⟨fd, D⟩ := E.D20
  exact FnM.of D sc (fun _ _ _ _ _ _ us hl => match us, hl with | [_, _, _], _ => rfl) (fun cdv A outer s H E0 hr =>
  mss_one (ms_ret (me_lc (own := [("pair", 3)]) (.inl rfl) rfl sc.nd (mi_val (me_var (i := 0))) (blkOk_by (by kernel_rfl)) (fun _ _ _ _ _ => mg_name sc.nd) (fun _ _ _ _ _ => mts_one (MW.mt (mw_or (mt_cmp (om_in hr.u65) (me_var (i := 3)) (me_var (i := 1)) (by with_unfolding_all rfl)) (mw_or1 (mt_not (mt_tru (me_call (FnM.mono (ok_is_within E) (by decide)) hr tk0 rfl E.g_is_within (ma_cons (me_ix (om_ix hr.u1) (me_var (i := 3)) (me_int)) (ma_cons (me_var (i := 2)) (ma_nil))) (al_cons (al_cons al_nil))))))))) (fun _ _ _ _ _ => me_var (i := 3)) (by decide))))
theorem sc21 : FnScope ["mine", "my_known", "yours", "your_known", "found", "pair"] ["mine", "my_known", "yours", "your_known"] (defScope s21) := ⟨rfl, rfl, rfl, by decide +kernel, rfl, by decide +kernel, by decide +kernel⟩
theorem ok_marked_together (E : Env K mg) : FnM P w K mg base (Gb K) 3 (He.ga K "marked_together") 4 m_marked_together := by
  have sc := sc21
  obtain ⟨fd, D⟩ := E.D21
  exact FnM.of D sc (fun _ _ _ _ _ _ us hl => match us, hl with | [_, _, _, _], _ => rfl) (fun cdv A outer s H E0 hr =>
  mss_cons (ms_set (i := 4) sc.nd (me_call (FnM.mono (ok_kept_of E) (by decide)) hr (takes_of rfl rfl rfl rfl) rfl E.g_kept_of (ma_cons (me_var (i := 0)) (ma_cons (me_var (i := 2)) (ma_cons (me_var (i := 3)) (ma_nil)))) (al_cons (al_cons (al_cons al_nil)))))
  (mss_cons (ms_set (i := 4) sc.nd (me_op om_add (me_var (i := 4)) (me_lc (own := [("pair", 5)]) (.inl rfl) rfl sc.nd (mi_val (me_call (FnM.mono (ok_kept_of E) (by decide)) hr (takes_of rfl rfl rfl rfl) rfl E.g_kept_of (ma_cons (me_var (i := 2)) (ma_cons (me_var (i := 0)) (ma_cons (me_var (i := 1)) (ma_nil)))) (al_cons (al_cons (al_cons al_nil))))) (blkOk_by (by kernel_rfl)) (fun _ _ _ _ _ => mg_name sc.nd) (fun _ _ _ _ _ => mts_one (mt_cmp (om_notIn hr.u65) (me_var (i := 5)) (me_var (i := 4)) (by with_unfolding_all rfl))) (fun _ _ _ _ _ => me_var (i := 5)) (by decide))))
  (mss_one (ms_ret (me_biT cm_tuple rfl E.n_tuple PyProof.Rows.boot_tuple (ma_cons (me_bi (cm_sorted hr.u200 rfl) rfl E.n_sorted PyProof.Rows.boot_sorted (ma_cons (me_var (i := 4)) (ma_nil))) (ma_nil)))))))
theorem sc22 : FnScope ["one", "other", "known", "names"] ["one", "other"] (defScope s22) := ⟨rfl, rfl, rfl, by decide +kernel, rfl, by decide +kernel, by decide +kernel⟩
theorem ok_put_together (E : Env K mg) : FnM P w K mg base (Gb K) 4 (He.ga K "put_together") 2 m_put_together := by
  have sc := sc22
  obtain ⟨fd, D⟩ := E.D22
  exact FnM.of D sc (fun _ _ _ _ _ _ us hl => match us, hl with | [_, _], _ => rfl) (fun cdv A outer s H E0 hr =>
  mss_cons (ms_set (i := 2) sc.nd (me_call (FnM.mono (ok_known_together E) (by decide)) hr (takes_of rfl rfl rfl rfl) rfl E.g_known_together (ma_cons (me_ix (om_ix hr.u1) (me_var (i := 0)) (me_int)) (ma_cons (me_ix (om_ix hr.u1) (me_var (i := 1)) (me_int)) (ma_nil))) (al_cons (al_cons al_nil))))
  (mss_cons (ms_set (i := 3) sc.nd (me_call (FnM.mono (ok_marked_together E) (by decide)) hr (takes_of rfl rfl rfl rfl) rfl E.g_marked_together (ma_cons (me_ix (om_ix hr.u1) (me_var (i := 0)) (me_int)) (ma_cons (me_ix (om_ix hr.u1) (me_var (i := 0)) (me_int)) (ma_cons (me_ix (om_ix hr.u1) (me_var (i := 1)) (me_int)) (ma_cons (me_ix (om_ix hr.u1) (me_var (i := 1)) (me_int)) (ma_nil))))) (al_cons (al_cons (al_cons (al_cons al_nil))))))
  (mss_one (ms_ret (me_tup (ma_cons (me_ix (om_ix hr.u1) (me_var (i := 0)) (me_int)) (ma_cons (me_ix (om_ix hr.u1) (me_var (i := 0)) (me_int)) (ma_cons (me_var (i := 2)) (ma_cons (me_var (i := 3)) (ma_cons (me_call (FnM.mono (ok_marked_together E) (by decide)) hr (takes_of rfl rfl rfl rfl) rfl E.g_marked_together (ma_cons (me_ix (om_ix hr.u1) (me_var (i := 0)) (me_int)) (ma_cons (me_ix (om_ix hr.u1) (me_var (i := 0)) (me_int)) (ma_cons (me_ix (om_ix hr.u1) (me_var (i := 1)) (me_int)) (ma_cons (me_ix (om_ix hr.u1) (me_var (i := 1)) (me_int)) (ma_nil))))) (al_cons (al_cons (al_cons (al_cons al_nil))))) (ma_nil)))))))))))
theorem sc23 : FnScope ["self", "file", "which", "before"] ["self", "file"] (defScope s23) := ⟨rfl, rfl, rfl, by decide +kernel, rfl, by decide +kernel, by decide +kernel⟩
theorem ok_House_take (E : Env K mg) : FnM P w K mg base (Gb K) 5 (He.ma K (He.ga K "House") "take") 2 m_House_take := by
  have sc := sc23
  obtain ⟨fd, D⟩ := E.D23
  exact FnM.of D sc (fun _ _ _ _ _ _ us hl => match us, hl with | [_, _], _ => rfl) (fun cdv A outer s H E0 hr =>
  mss_cons (ms_set (i := 2) sc.nd (me_ix (om_ix hr.u1) (me_var (i := 1)) (me_int)))
  (mss_cons (ms_set (i := 3) sc.nd (me_get2 hr.u1 (me_fld (me_var (i := 0)) rfl E.c_House E.na_House_shelf nd_House rfl) (me_var (i := 2)) (me_non)))
  (mss_cons (ms_if (mt_cmp om_isNot (me_var (i := 3)) (me_non) (nomark _)) (mss_one (ms_set (i := 1) sc.nd (me_call (FnM.mono (ok_put_together E) (by decide)) hr (takes_of rfl rfl rfl rfl) rfl E.g_put_together (ma_cons (me_var (i := 3)) (ma_cons (me_var (i := 1)) (ma_nil))) (al_cons (al_cons al_nil))))) (mss_nil))
  (mss_cons (ms_sub hr.u1 (me_fld (me_var (i := 0)) rfl E.c_House E.na_House_shelf nd_House rfl) (me_var (i := 2)) (me_var (i := 1)))
  (mss_one (ms_ret (me_cmp (om_ne hr.units) (me_var (i := 1)) (me_var (i := 3)) (nomark _))))))))
theorem sc24 : FnScope ["self", "file"] ["self", "file"] (defScope s24) := ⟨rfl, rfl, rfl, by decide +kernel, rfl, by decide +kernel, by decide +kernel⟩
theorem ok_House_lead_on (E : Env K mg) : FnM P w K mg base (Gb K) 6 (He.ma K (He.ga K "House") "lead_on") 2 m_House_lead_on := by
  have sc := sc24
  obtain ⟨fd, D⟩ := E.D24
  exact FnM.of D sc (fun _ _ _ _ _ _ us hl => match us, hl with | [_, _], _ => rfl) (fun cdv A outer s H E0 hr =>
  mss_cons (ms_if (MW.mt (mw_and (mt_tru (me_call (FnM.mono (ok_is_gone E) (by decide)) hr (takes_of rfl rfl rfl rfl) rfl E.g_is_gone (ma_cons (me_var (i := 1)) (ma_nil)) (al_cons al_nil))) (mw_and1 (mt_cmp (om_notIn hr.u65) (me_ix (om_ix hr.u1) (me_var (i := 1)) (me_int)) (me_fld (me_var (i := 0)) rfl E.c_House E.na_House_shelf nd_House rfl) (by with_unfolding_all rfl))))) (mss_one (ms_ret (me_bl))) (mss_nil))
  (mss_one (ms_ret (me_meth (me_var (i := 0)) rfl E.c_House E.m_House_take nf_House_take (FnM.mono (ok_House_take E) (by decide)) hr (takes_of rfl rfl rfl rfl) (ma_cons (me_var (i := 1)) (ma_nil)) (al_cons al_nil)))))
theorem sc25 : FnScope ["_law_state", "_law_to", "_law_giver", "_law_which", "_law_houses", "_law_numbers", "_law_counts", "_law_acts", "_law_books", "_law_k"] ["_law_state", "_law_to", "_law_giver", "_law_which"] (defScope s25) := ⟨rfl, rfl, rfl, by decide +kernel, rfl, by decide +kernel, by decide +kernel⟩
theorem ok_law_tell (E : Env K mg) : FnM P w K mg base (Gb K) 1 (He.ga K "_law_tell") 4 m_law_tell := by
  have sc := sc25
  obtain ⟨fd, D⟩ := E.D25
  exact FnM.of D sc (fun _ _ _ _ _ _ us hl => match us, hl with | [_, _, _, _], _ => rfl) (fun cdv A outer s H E0 hr =>
  mss_cons (ms_asg (me_var (i := 0)) (mg_tup rfl (mgs_cons (mg_name sc.nd) (mgs_cons (mg_name sc.nd) (mgs_cons (mg_name sc.nd) (mgs_cons (mg_name sc.nd) (mgs_cons (mg_name sc.nd) (mgs_nil))))))))
  (mss_one (ms_for (passes_of rfl) rfl (mi_val (me_biT (cm_list rfl) rfl E.n_list PyProof.Rows.boot_list (ma_cons (me_ix (om_ix hr.u1) (me_var (i := 8)) (me_var (i := 2))) (ma_nil)))) (mg_name sc.nd) (mss_one (ms_if (mt_cmp (om_eq hr.units) (me_ix (om_ix hr.u1) (me_ix (om_ix hr.u1) (me_var (i := 7)) (me_var (i := 9))) (me_int)) (me_var (i := 3)) (nomark _)) (mss_one (ms_sub hr.u1 (me_ix (om_ix hr.u1) (me_var (i := 8)) (me_var (i := 1))) (me_var (i := 9)) (me_bl))) (mss_nil))))))
theorem sc26 : FnScope ["_law_state", "_law_told", "_law_turn_here", "_law_at", "_law_other", "_law_have", "_law_k", "_law_file", "_law_one"] ["_law_state", "_law_told"] (defScope s26) := ⟨rfl, rfl, rfl, by decide +kernel, rfl, by decide +kernel, by decide +kernel⟩
theorem ok_law_all_told (E : Env K mg) : FnM P w K mg base (Gb K) 7 (He.ga K "_law_all_told") 2 m_law_all_told := by
  have sc := sc26
  obtain ⟨fd, D⟩ := E.D26
  exact FnM.of D sc (fun _ _ _ _ _ _ us hl => match us, hl with | [_, _], _ => rfl) (fun cdv A outer s H E0 hr =>
  mss_cons (ms_for (passes_of rfl) rfl (mi_range1 rfl E.n_range (ma_cons (me_int) (ma_nil))) (mg_name sc.nd) (mss_one (ms_for (passes_of rfl) rfl (mi_range1 rfl E.n_range (ma_cons (me_int) (ma_nil))) (mg_name sc.nd) (mss_one (ms_for (passes_of rfl) rfl (mi_range1 rfl E.n_range (ma_cons (me_int) (ma_nil))) (mg_name sc.nd) (mss_cons (ms_lock (which := e2 vIx (e2 vIx (eVar 0) (eC (.int 4))) (eVar 3)) (ms_setLc (own := [("_law_k", 6)]) (.inl rfl) rfl sc.nd rfl rfl rfl (mi_keys (me_ix (om_ix hr.u1) (me_ix (om_ix hr.u1) (me_var (i := 0)) (me_int)) (me_var (i := 3)))) (blkOk_by (by kernel_rfl)) (fun _ _ _ _ _ => mg_name sc.nd) (fun _ _ _ _ _ => mts_nil) (fun _ _ _ _ _ => me_ix (om_ix hr.u1) (me_ix (om_ix hr.u1) (me_ix (om_ix hr.u1) (me_var (i := 0)) (me_int)) (me_var (i := 6))) (me_int)) (by decide)))
  (mss_one (ms_for (passes_of rfl) rfl (mi_val (me_call (FnM.mono (ok_law_files E) (by decide)) hr (takes_of rfl rfl rfl rfl) rfl E.g__law_files (ma_cons (me_var (i := 0)) (ma_cons (me_var (i := 4)) (ma_nil))) (al_cons (al_cons al_nil)))) (mg_name sc.nd) (mss_cons (ms_if (MW.mt (mw_or (mt_tru (me_ix (om_ix hr.u1) (me_var (i := 7)) (me_int))) (mw_or1 (mt_cmp (om_in hr.u65) (me_ix (om_ix hr.u1) (me_var (i := 7)) (me_int)) (me_var (i := 5)) (by with_unfolding_all rfl))))) (mss_one (ms_expr (me_call (FnM.mono (ok_law_tell E) (by decide)) hr (takes_of rfl rfl rfl rfl) rfl E.g__law_tell (ma_cons (me_var (i := 0)) (ma_cons (me_var (i := 3)) (ma_cons (me_var (i := 4)) (ma_cons (me_ix (om_ix hr.u1) (me_var (i := 7)) (me_int)) (ma_nil))))) (al_cons (al_cons (al_cons (al_cons al_nil))))))) (mss_nil))
  (mss_one (ms_expr (me_meth (me_ix (om_ix hr.u1) (me_ix (om_ix hr.u1) (me_var (i := 0)) (me_int)) (me_var (i := 3))) rfl E.c_House E.m_House_lead_on nf_House_lead_on (FnM.mono (ok_House_lead_on E) (by decide)) hr (takes_of rfl rfl rfl rfl) (ma_cons (me_meth (me_ix (om_ix hr.u1) (me_ix (om_ix hr.u1) (me_var (i := 0)) (me_int)) (me_var (i := 4))) rfl E.c_House E.m_House_file nf_House_file (FnM.mono (ok_House_file E) (by decide)) hr (takes_of rfl rfl rfl rfl) (ma_cons (me_ix (om_ix hr.u1) (me_var (i := 7)) (me_int)) (ma_nil)) (al_cons al_nil)) (ma_nil)) (al_cons al_nil)))))))))))))
  (mss_one (ms_for (passes_of rfl) rfl (mi_range1 rfl E.n_range (ma_cons (me_int) (ma_nil))) (mg_name sc.nd) (mss_one (ms_for (passes_of rfl) rfl (mi_val (me_lc (own := [("_law_one", 8)]) (.inl rfl) rfl sc.nd (mi_range1 rfl E.n_range (ma_cons (me_int) (ma_nil))) (blkOk_by (by kernel_rfl)) (fun _ _ _ _ _ => mg_name sc.nd) (fun _ _ _ _ _ => mts_one (mt_cmp (om_ne hr.units) (me_var (i := 8)) (me_var (i := 3)) (nomark _))) (fun _ _ _ _ _ => me_var (i := 8)) (by decide))) (mg_name sc.nd) (mss_cons (ms_sub hr.u1 (me_var (i := 1)) (me_tup (ma_cons (me_var (i := 3)) (ma_cons (me_var (i := 4)) (ma_nil)))) (me_biT (cm_dictT rfl hr.u65) rfl E.n_dict PyProof.Rows.boot_dict (ma_cons (me_lc (own := [("_law_file", 7)]) (.inl rfl) rfl sc.nd (mi_val (me_call (FnM.mono (ok_law_files E) (by decide)) hr (takes_of rfl rfl rfl rfl) rfl E.g__law_files (ma_cons (me_var (i := 0)) (ma_cons (me_var (i := 4)) (ma_nil))) (al_cons (al_cons al_nil)))) (blkOk_by (by kernel_rfl)) (fun _ _ _ _ _ => mg_name sc.nd) (fun _ _ _ _ _ => mts_nil) (fun _ _ _ _ _ => me_tup (ma_cons (me_ix (om_ix hr.u1) (me_var (i := 7)) (me_int)) (ma_cons (me_ix (om_ix hr.u1) (me_var (i := 7)) (me_int)) (ma_nil)))) (by decide)) (ma_nil))))
  (mss_one (ms_expr (me_meth (me_ix (om_ix hr.u1) (me_ix (om_ix hr.u1) (me_var (i := 0)) (me_int)) (me_var (i := 3))) rfl E.c_House E.m_House_told_by nf_House_told_by (FnM.mono (ok_House_told_by E) (by decide)) hr (takes_of rfl rfl rfl rfl) (ma_cons (me_ix (om_ix hr.u1) (me_ix (om_ix hr.u1) (me_var (i := 0)) (me_int)) (me_var (i := 4))) (ma_cons (me_meth0 (me_ix (om_ix hr.u1) (me_ix (om_ix hr.u1) (me_var (i := 0)) (me_int)) (me_var (i := 4))) rfl E.c_House E.m_House_heard nf_House_heard (FnM.mono (ok_House_heard E) (by decide)) hr (takes_of rfl rfl rfl rfl)) (ma_nil))) (al_cons (al_cons al_nil)))))))))))
theorem sc27 : FnScope ["self", "numbers", "found", "which", "known", "number"] ["self", "numbers"] (defScope s27) := ⟨rfl, rfl, rfl, by decide +kernel, rfl, by decide +kernel, by decide +kernel⟩
theorem ok_House_can_forget (E : Env K mg) : FnM P w K mg base (Gb K) 3 (He.ma K (He.ga K "House") "can_forget") 2 m_House_can_forget := by
  have sc := sc27
  obtain ⟨fd, D⟩ := E.D27
  exact FnM.of D sc (fun _ _ _ _ _ _ us hl => match us, hl with | [_, _], _ => rfl) (fun cdv A outer s H E0 hr =>
  mss_cons (ms_set (i := 2) sc.nd (me_lstR (ma_nil)))
  (mss_cons (ms_for (passes_of rfl) rfl (mi_val (me_meth0 (me_var (i := 0)) rfl E.c_House E.m_House_gone nf_House_gone (FnM.mono (ok_House_gone E) (by decide)) hr (takes_of rfl rfl rfl rfl))) (mg_name sc.nd) (mss_cons (ms_set (i := 4) sc.nd (me_ix (om_ix hr.u1) (me_ix (om_ix hr.u1) (me_fld (me_var (i := 0)) rfl E.c_House E.na_House_shelf nd_House rfl) (me_var (i := 3))) (me_int)))
  (mss_one (ms_if (mt_tru (me_bi (cm_all rfl) rfl E.n_all PyProof.Rows.boot_all (ma_cons (me_lc (own := [("number", 5)]) (.inl rfl) rfl sc.nd (mi_val (me_var (i := 1))) (blkOk_by (by kernel_rfl)) (fun _ _ _ _ _ => mg_name sc.nd) (fun _ _ _ _ _ => mts_nil) (fun _ _ _ _ _ => me_cmp (om_eq hr.units) (me_get2 hr.u1 (me_get2 hr.u1 (me_fld (me_var (i := 0)) rfl E.c_House E.na_House_told nd_House rfl) (me_var (i := 5)) (me_dictT)) (me_var (i := 3)) (me_tup (ma_nil))) (me_var (i := 4)) (nomark _)) (by decide)) (ma_nil)))) (mss_one (ms_expr (me_bm (T := .list) mm_append PySem.F.plainAttrs_list PySem.F.slot_list_append PySem.F.type_list_append (me_var (i := 2)) (ma_cons (me_var (i := 3)) (ma_nil))))) (mss_nil)))))
  (mss_one (ms_ret (me_biT cm_tuple rfl E.n_tuple PyProof.Rows.boot_tuple (ma_cons (me_var (i := 2)) (ma_nil)))))))
theorem sc28 : FnScope ["self", "numbers", "some", "which"] ["self", "numbers"] (defScope s28) := ⟨rfl, rfl, rfl, by decide +kernel, rfl, by decide +kernel, by decide +kernel⟩
theorem ok_House_forget (E : Env K mg) : FnM P w K mg base (Gb K) 4 (He.ma K (He.ga K "House") "forget") 2 m_House_forget := by
  have sc := sc28
  obtain ⟨fd, D⟩ := E.D28
  exact FnM.of D sc (fun _ _ _ _ _ _ us hl => match us, hl with | [_, _], _ => rfl) (fun cdv A outer s H E0 hr =>
  mss_cons (ms_set (i := 2) sc.nd (me_meth (me_var (i := 0)) rfl E.c_House E.m_House_can_forget nf_House_can_forget (FnM.mono (ok_House_can_forget E) (by decide)) hr (takes_of rfl rfl rfl rfl) (ma_cons (me_var (i := 1)) (ma_nil)) (al_cons al_nil)))
  (mss_cons (ms_for (passes_of rfl) rfl (mi_val (me_var (i := 2))) (mg_name sc.nd) (mss_one (ms_expr (me_dpop hr.u1 (me_fld (me_var (i := 0)) rfl E.c_House E.na_House_shelf nd_House rfl) (me_var (i := 3))))))
  (mss_one (ms_ret (me_bi cm_len rfl E.n_len boot_len (ma_cons (me_var (i := 2)) (ma_nil)))))))
theorem sc29 : FnScope ["_law_state", "_law_told", "_law_out", "_law_at", "_law_houses", "_law_numbers", "_law_counts", "_law_acts", "_law_books", "_law_others", "_law_one", "_law_gone", "_law_file", "_law_some", "_law_which", "_law_k"] ["_law_state", "_law_told", "_law_out", "_law_at"] (defScope s29) := ⟨rfl, rfl, rfl, by decide +kernel, rfl, by decide +kernel, by decide +kernel⟩
theorem ok_law_forget (E : Env K mg) : FnM P w K mg base (Gb K) 33 (He.ga K "_law_forget") 4 m_law_forget := by
  have sc := sc29
  obtain ⟨fd, D⟩ := E.D29
  exact FnM.of D sc (fun _ _ _ _ _ _ us hl => match us, hl with | [_, _, _, _], _ => rfl) (fun cdv A outer s H E0 hr =>
  mss_cons (ms_asg (me_var (i := 0)) (mg_tup rfl (mgs_cons (mg_name sc.nd) (mgs_cons (mg_name sc.nd) (mgs_cons (mg_name sc.nd) (mgs_cons (mg_name sc.nd) (mgs_cons (mg_name sc.nd) (mgs_nil))))))))
  (mss_cons (ms_set (i := 9) sc.nd (me_lc (own := [("_law_one", 10)]) (.inl rfl) rfl sc.nd (mi_range1 rfl E.n_range (ma_cons (me_int) (ma_nil))) (blkOk_by (by kernel_rfl)) (fun _ _ _ _ _ => mg_name sc.nd) (fun _ _ _ _ _ => mts_one (mt_cmp (om_ne hr.units) (me_var (i := 10)) (me_var (i := 3)) (nomark _))) (fun _ _ _ _ _ => me_var (i := 10)) (by decide)))
  (mss_cons (ms_setLc (own := [("_law_file", 12)]) (.inl rfl) rfl sc.nd rfl rfl rfl (mi_val (me_call (FnM.mono (ok_law_files E) (by decide)) hr (takes_of rfl rfl rfl rfl) rfl E.g__law_files (ma_cons (me_var (i := 0)) (ma_cons (me_var (i := 3)) (ma_nil))) (al_cons (al_cons al_nil)))) (blkOk_by (by kernel_rfl)) (fun _ _ _ _ _ => mg_name sc.nd) (fun _ _ _ _ _ => mts_one (mt_not (mt_tru (me_ix (om_ix hr.u1) (me_var (i := 12)) (me_int))))) (fun _ _ _ _ _ => me_var (i := 12)) (by decide))
  (mss_cons (ms_setLc (own := [("_law_file", 12)]) (.inl rfl) rfl sc.nd rfl rfl rfl (mi_val (me_var (i := 11))) (blkOk_by (by kernel_rfl)) (fun _ _ _ _ _ => mg_name sc.nd) (fun _ _ _ _ _ => mts_one (mt_tru (me_bi (cm_all rfl) rfl E.n_all PyProof.Rows.boot_all (ma_cons (me_lc (own := [("_law_one", 10)]) (.inl rfl) rfl sc.nd (mi_val (me_var (i := 9))) (blkOk_by (by kernel_rfl)) (fun _ _ _ _ _ => mg_name sc.nd) (fun _ _ _ _ _ => mts_nil) (fun _ _ _ _ _ => me_cmp (om_eq hr.units) (me_get2 hr.u1 (me_ix (om_ix hr.u1) (me_var (i := 1)) (me_tup (ma_cons (me_var (i := 3)) (ma_cons (me_var (i := 10)) (ma_nil))))) (me_ix (om_ix hr.u1) (me_var (i := 12)) (me_int)) (me_tup (ma_nil))) (me_ix (om_ix hr.u1) (me_var (i := 12)) (me_int)) (nomark _)) (by decide)) (ma_nil))))) (fun _ _ _ _ _ => me_ix (om_ix hr.u1) (me_var (i := 12)) (me_int)) (by decide))
  (mss_cons (ms_if (mt_not (mt_tru (me_call (FnM.mono (ok_law_same E) (by decide)) hr (takes_of rfl rfl rfl rfl) rfl E.g__law_same (ma_cons (me_meth (me_ix (om_ix hr.u1) (me_var (i := 4)) (me_var (i := 3))) rfl E.c_House E.m_House_can_forget nf_House_can_forget (FnM.mono (ok_House_can_forget E) (by decide)) hr (takes_of rfl rfl rfl rfl) (ma_cons (me_biT cm_tuple rfl E.n_tuple PyProof.Rows.boot_tuple (ma_cons (me_lc (own := [("_law_one", 10)]) (.inl rfl) rfl sc.nd (mi_val (me_var (i := 9))) (blkOk_by (by kernel_rfl)) (fun _ _ _ _ _ => mg_name sc.nd) (fun _ _ _ _ _ => mts_nil) (fun _ _ _ _ _ => me_ix (om_ix hr.u1) (me_var (i := 5)) (me_var (i := 10))) (by decide)) (ma_nil))) (ma_nil)) (al_cons al_nil)) (ma_cons (me_biT cm_tuple rfl E.n_tuple PyProof.Rows.boot_tuple (ma_cons (me_var (i := 13)) (ma_nil))) (ma_nil))) (al_cons (al_cons al_nil))))) (mss_one (ms_ret (me_bl))) (mss_nil))
  (mss_cons (ms_for (passes_of rfl) rfl (mi_val (me_var (i := 13))) (mg_name sc.nd) (mss_cons (ms_subQ hr.u200 (me_var (i := 2)) (me_tup (ma_cons (me_var (i := 3)) (ma_cons (me_var (i := 14)) (ma_nil)))) (me_bl))
  (mss_one (ms_for (passes_of rfl) rfl (mi_val (me_biT (cm_list rfl) rfl E.n_list PyProof.Rows.boot_list (ma_cons (me_ix (om_ix hr.u1) (me_var (i := 8)) (me_var (i := 3))) (ma_nil)))) (mg_name sc.nd) (mss_one (ms_if (mt_cmp (om_eq hr.units) (me_ix (om_ix hr.u1) (me_ix (om_ix hr.u1) (me_var (i := 7)) (me_var (i := 15))) (me_int)) (me_var (i := 14)) (nomark _)) (mss_one (ms_expr (me_dpopK (me_ix (om_ix hr.u1) (me_var (i := 8)) (me_var (i := 3))) (me_var (i := 15))))) (mss_nil)))))))
  (mss_one (ms_ret (me_call (FnM.mono (ok_law_same E) (by decide)) hr (takes_of rfl rfl rfl rfl) rfl E.g__law_same (ma_cons (me_meth (me_ix (om_ix hr.u1) (me_var (i := 4)) (me_var (i := 3))) rfl E.c_House E.m_House_forget nf_House_forget (FnM.mono (ok_House_forget E) (by decide)) hr (takes_of rfl rfl rfl rfl) (ma_cons (me_biT cm_tuple rfl E.n_tuple PyProof.Rows.boot_tuple (ma_cons (me_lc (own := [("_law_one", 10)]) (.inl rfl) rfl sc.nd (mi_val (me_var (i := 9))) (blkOk_by (by kernel_rfl)) (fun _ _ _ _ _ => mg_name sc.nd) (fun _ _ _ _ _ => mts_nil) (fun _ _ _ _ _ => me_ix (om_ix hr.u1) (me_var (i := 5)) (me_var (i := 10))) (by decide)) (ma_nil))) (ma_nil)) (al_cons al_nil)) (ma_cons (me_bi cm_len rfl E.n_len boot_len (ma_cons (me_var (i := 13)) (ma_nil))) (ma_nil))) (al_cons (al_cons al_nil)))))))))))
theorem sc30 : FnScope ["_law_cell_here", "_law_letters", "_law_many", "_law_k"] ["_law_cell_here"] (defScope s30) := ⟨rfl, rfl, rfl, by decide +kernel, rfl, by decide +kernel, by decide +kernel⟩
theorem ok_law_name (E : Env K mg) : FnM P w K mg base (Gb K) 2 (He.ga K "_law_name") 1 m_law_name := by
  have sc := sc30
  obtain ⟨fd, D⟩ := E.D30
  exact FnM.of D sc (fun _ _ _ _ _ _ us hl => match us, hl with | [_], _ => rfl) (fun cdv A outer s H E0 hr =>
  mss_cons (ms_set (i := 1) sc.nd (me_str))
  (mss_cons (ms_set (i := 2) sc.nd (me_op om_add (me_int) (me_call (FnM.mono (ok_law_mix E) (by decide)) hr (takes_of rfl rfl rfl rfl) rfl E.g__law_mix (ma_cons (me_var (i := 0)) (ma_cons (me_int) (ma_cons (me_int) (ma_nil)))) (al_cons (al_cons (al_cons al_nil))))))
  (mss_cons (ms_if (mt_cmp (om_eq hr.units) (me_op om_mod (me_var (i := 0)) (me_int)) (me_int) (nomark _)) (mss_cons (ms_set (i := 1) sc.nd (me_str))
  (mss_one (ms_set (i := 2) sc.nd (me_op om_add (me_int) (me_op om_mod (me_var (i := 2)) (me_int)))))) (mss_nil))
  (mss_one (ms_ret (me_bm (T := .str) mm_join PySem.F.plainAttrs_str PySem.F.slot_str_join PySem.F.type_str_join (me_str) (ma_cons (me_lc (own := [("_law_k", 3)]) (.inl rfl) rfl sc.nd (mi_range1 rfl E.n_range (ma_cons (me_var (i := 2)) (ma_nil))) (blkOk_by (by kernel_rfl)) (fun _ _ _ _ _ => mg_name sc.nd) (fun _ _ _ _ _ => mts_nil) (fun _ _ _ _ _ => me_ix (om_ix hr.u1) (me_var (i := 1)) (me_call (FnM.mono (ok_law_mix E) (by decide)) hr tk0 rfl E.g__law_mix (ma_cons (me_op om_add (me_var (i := 0)) (me_op om_mul (me_int) (me_var (i := 3)))) (ma_cons (me_int) (ma_cons (me_bi cm_len rfl E.n_len boot_len (ma_cons (me_var (i := 1)) (ma_nil))) (ma_nil)))) (al_cons (al_cons (al_cons al_nil))))) (by decide)) (ma_nil))))))))
theorem sc31 : FnScope ["_law_cell_here", "_law_signs", "_law_many", "_law_k"] ["_law_cell_here"] (defScope s31) := ⟨rfl, rfl, rfl, by decide +kernel, rfl, by decide +kernel, by decide +kernel⟩
theorem ok_law_text (E : Env K mg) : FnM P w K mg base (Gb K) 2 (He.ga K "_law_text") 1 m_law_text := by
  have sc := sc31
  obtain ⟨fd, D⟩ := E.D31
  exact FnM.of D sc (fun _ _ _ _ _ _ us hl => match us, hl with | [_], _ => rfl) (fun cdv A outer s H E0 hr =>
  mss_cons (ms_set (i := 1) sc.nd (me_str))
  (mss_cons (ms_set (i := 2) sc.nd (me_call (FnM.mono (ok_law_mix E) (by decide)) hr (takes_of rfl rfl rfl rfl) rfl E.g__law_mix (ma_cons (me_var (i := 0)) (ma_cons (me_int) (ma_cons (me_int) (ma_nil)))) (al_cons (al_cons (al_cons al_nil)))))
  (mss_cons (ms_if (mt_cmp (om_eq hr.units) (me_call (FnM.mono (ok_law_mix E) (by decide)) hr (takes_of rfl rfl rfl rfl) rfl E.g__law_mix (ma_cons (me_var (i := 0)) (ma_cons (me_int) (ma_cons (me_int) (ma_nil)))) (al_cons (al_cons (al_cons al_nil)))) (me_int) (nomark _)) (mss_one (ms_set (i := 2) sc.nd (me_int))) (mss_nil))
  (mss_cons (ms_if (mt_cmp (om_eq hr.units) (me_call (FnM.mono (ok_law_mix E) (by decide)) hr (takes_of rfl rfl rfl rfl) rfl E.g__law_mix (ma_cons (me_var (i := 0)) (ma_cons (me_int) (ma_cons (me_int) (ma_nil)))) (al_cons (al_cons (al_cons al_nil)))) (me_int) (nomark _)) (mss_one (ms_set (i := 2) sc.nd (me_call (FnM.mono (ok_law_mix E) (by decide)) hr (takes_of rfl rfl rfl rfl) rfl E.g__law_mix (ma_cons (me_var (i := 0)) (ma_cons (me_int) (ma_cons (me_int) (ma_nil)))) (al_cons (al_cons (al_cons al_nil)))))) (mss_nil))
  (mss_cons (ms_if (mt_cmp (om_eq hr.units) (me_op om_mod (me_var (i := 0)) (me_int)) (me_int) (nomark _)) (mss_one (ms_ret (me_ix (om_ix hr.u1) (me_tup (ma_cons (me_str) (ma_cons (me_str) (ma_cons (me_str) (ma_nil))))) (me_call (FnM.mono (ok_law_mix E) (by decide)) hr (takes_of rfl rfl rfl rfl) rfl E.g__law_mix (ma_cons (me_var (i := 0)) (ma_cons (me_int) (ma_cons (me_int) (ma_nil)))) (al_cons (al_cons (al_cons al_nil))))))) (mss_nil))
  (mss_one (ms_ret (me_bm (T := .str) mm_join PySem.F.plainAttrs_str PySem.F.slot_str_join PySem.F.type_str_join (me_str) (ma_cons (me_lc (own := [("_law_k", 3)]) (.inl rfl) rfl sc.nd (mi_range1 rfl E.n_range (ma_cons (me_var (i := 2)) (ma_nil))) (blkOk_by (by kernel_rfl)) (fun _ _ _ _ _ => mg_name sc.nd) (fun _ _ _ _ _ => mts_nil) (fun _ _ _ _ _ => me_ix (om_ix hr.u1) (me_var (i := 1)) (me_call (FnM.mono (ok_law_mix E) (by decide)) hr tk0 rfl E.g__law_mix (ma_cons (me_op om_add (me_var (i := 0)) (me_op om_mul (me_int) (me_var (i := 3)))) (ma_cons (me_int) (ma_cons (me_bi cm_len rfl E.n_len boot_len (ma_cons (me_var (i := 1)) (ma_nil))) (ma_nil)))) (al_cons (al_cons (al_cons al_nil))))) (by decide)) (ma_nil))))))))))
theorem sc32 : FnScope ["thing", "sign"] ["thing"] (defScope s32) := ⟨rfl, rfl, rfl, by decide +kernel, rfl, by decide +kernel, by decide +kernel⟩
theorem ok_is_name (E : Env K mg) : FnM P w K mg base (Gb K) 1 (He.ga K "is_name") 1 m_is_name := by
  have sc := sc32
  obtain ⟨fd, D⟩ := E.D32
  exact FnM.of D sc (fun _ _ _ _ _ _ us hl => match us, hl with | [_], _ => rfl) (fun cdv A outer s H E0 hr =>
  mss_one (ms_ret (me_and (me_bi cm_isi rfl E.n_isinstance PyProof.Rows.boot_isinstance (ma_cons (me_var (i := 0)) (ma_cons (me_ty rfl E.n_str PyProof.Rows.boot_str) (ma_nil)))) (me_and (me_chain om_le om_le (me_int) (me_bi cm_len rfl E.n_len boot_len (ma_cons (me_var (i := 0)) (ma_nil))) (me_int)) (me_one (me_bi (cm_all rfl) rfl E.n_all PyProof.Rows.boot_all (ma_cons (me_lc (own := [("sign", 1)]) (.inl rfl) rfl sc.nd (mi_val (me_var (i := 0))) (blkOk_by (by kernel_rfl)) (fun _ _ _ _ _ => mg_name sc.nd) (fun _ _ _ _ _ => mts_nil) (fun _ _ _ _ _ => me_cmp (om_in hr.u65) (me_var (i := 1)) (me_gstr rfl E.LETTERS.choose_spec) (by with_unfolding_all rfl)) (by decide)) (ma_nil))))))))
theorem sc33 : FnScope ["self", "name"] ["self", "name"] (defScope s33) := ⟨rfl, rfl, rfl, by decide +kernel, rfl, by decide +kernel, by decide +kernel⟩
theorem ok_House_must_be_name (E : Env K mg) : FnM P w K mg base (Gb K) 2 (He.ma K (He.ga K "House") "must_be_name") 2 m_House_must_be_name := by
  have sc := sc33
  obtain ⟨fd, D⟩ := E.D33
  exact FnM.of D sc (fun _ _ _ _ _ _ us hl => match us, hl with | [_, _], _ => rfl) (fun cdv A outer s H E0 hr =>
  mss_one (ms_if (mt_not (mt_tru (me_call (FnM.mono (ok_is_name E) (by decide)) hr (takes_of rfl rfl rfl rfl) rfl E.g_is_name (ma_cons (me_var (i := 1)) (ma_nil)) (al_cons al_nil)))) (mss_one (ms_raise rfl (takes_of rfl rfl rfl rfl) PySem.F.excBase_ValueError E.x_NoName rfl E.g_NoName E.k_NoName (raises_own E.sb_NoName E.ty_NoName) rfl)) (mss_nil)))
theorem sc34 : FnScope ["thing"] ["thing"] (defScope s34) := ⟨rfl, rfl, rfl, by decide +kernel, rfl, by decide +kernel, by decide +kernel⟩
theorem ok_is_text (E : Env K mg) : FnM P w K mg base (Gb K) 1 (He.ga K "is_text") 1 m_is_text := by
  have sc := sc34
  obtain ⟨fd, D⟩ := E.D34
  exact FnM.of D sc (fun _ _ _ _ _ _ us hl => match us, hl with | [_], _ => rfl) (fun cdv A outer s H E0 hr =>
  mss_one (ms_ret (me_and (me_bi cm_isi rfl E.n_isinstance PyProof.Rows.boot_isinstance (ma_cons (me_var (i := 0)) (ma_cons (me_ty rfl E.n_str PyProof.Rows.boot_str) (ma_nil)))) (me_one (me_cmp om_le (me_bi cm_len rfl E.n_len boot_len (ma_cons (me_var (i := 0)) (ma_nil))) (me_int) (nomark _))))))
theorem sc35 : FnScope ["self", "text"] ["self", "text"] (defScope s35) := ⟨rfl, rfl, rfl, by decide +kernel, rfl, by decide +kernel, by decide +kernel⟩
theorem ok_House_must_be_text (E : Env K mg) : FnM P w K mg base (Gb K) 2 (He.ma K (He.ga K "House") "must_be_text") 2 m_House_must_be_text := by
  have sc := sc35
  obtain ⟨fd, D⟩ := E.D35
  exact FnM.of D sc (fun _ _ _ _ _ _ us hl => match us, hl with | [_, _], _ => rfl) (fun cdv A outer s H E0 hr =>
  mss_one (ms_if (mt_not (mt_tru (me_call (FnM.mono (ok_is_text E) (by decide)) hr (takes_of rfl rfl rfl rfl) rfl E.g_is_text (ma_cons (me_var (i := 1)) (ma_nil)) (al_cons al_nil)))) (mss_one (ms_raise rfl (takes_of rfl rfl rfl rfl) PySem.F.excBase_ValueError E.x_NoWords rfl E.g_NoWords E.k_NoWords (raises_own E.sb_NoWords E.ty_NoWords) rfl)) (mss_nil)))
theorem sc36 : FnScope ["self"] ["self"] (defScope s36) := ⟨rfl, rfl, rfl, by decide +kernel, rfl, by decide +kernel, by decide +kernel⟩
theorem ok_House_next_mark (E : Env K mg) : FnM P w K mg base (Gb K) 1 (He.ma K (He.ga K "House") "next_mark") 1 m_House_next_mark := by
  have sc := sc36
  obtain ⟨fd, D⟩ := E.D36
  exact FnM.of D sc (fun _ _ _ _ _ _ us hl => match us, hl with | [_], _ => rfl) (fun cdv A outer s H E0 hr =>
  mss_cons (ms_fld (me_var (i := 0)) (me_op om_add (me_fld (me_var (i := 0)) rfl E.c_House E.na_House_acts nd_House rfl) (me_int)) rfl E.c_House E.na_House_acts nd_House rfl)
  (mss_one (ms_ret (me_tup (ma_cons (me_fld (me_var (i := 0)) rfl E.c_House E.na_House_own nd_House rfl) (ma_cons (me_fld (me_var (i := 0)) rfl E.c_House E.na_House_acts nd_House rfl) (ma_nil)))))))
theorem sc37 : FnScope ["self", "name", "text", "mark"] ["self", "name", "text"] (defScope s37) := ⟨rfl, rfl, rfl, by decide +kernel, rfl, by decide +kernel, by decide +kernel⟩
theorem ok_House_make (E : Env K mg) : FnM P w K mg base (Gb K) 3 (He.ma K (He.ga K "House") "make") 3 m_House_make := by
  have sc := sc37
  obtain ⟨fd, D⟩ := E.D37
  exact FnM.of D sc (fun _ _ _ _ _ _ us hl => match us, hl with | [_, _, _], _ => rfl) (fun cdv A outer s H E0 hr =>
  mss_cons (ms_expr (me_meth (me_var (i := 0)) rfl E.c_House E.m_House_must_be_name nf_House_must_be_name (FnM.mono (ok_House_must_be_name E) (by decide)) hr (takes_of rfl rfl rfl rfl) (ma_cons (me_var (i := 1)) (ma_nil)) (al_cons al_nil)))
  (mss_cons (ms_expr (me_meth (me_var (i := 0)) rfl E.c_House E.m_House_must_be_text nf_House_must_be_text (FnM.mono (ok_House_must_be_text E) (by decide)) hr (takes_of rfl rfl rfl rfl) (ma_cons (me_var (i := 2)) (ma_nil)) (al_cons al_nil)))
  (mss_cons (ms_set (i := 3) sc.nd (me_meth0 (me_var (i := 0)) rfl E.c_House E.m_House_next_mark nf_House_next_mark (FnM.mono (ok_House_next_mark E) (by decide)) hr (takes_of rfl rfl rfl rfl)))
  (mss_cons (ms_sub hr.u1 (me_fld (me_var (i := 0)) rfl E.c_House E.na_House_shelf nd_House rfl) (me_var (i := 3)) (me_tup (ma_cons (me_var (i := 3)) (ma_cons (me_var (i := 1)) (ma_cons (me_tup (ma_cons (me_var (i := 3)) (ma_nil))) (ma_cons (me_tup (ma_nil)) (ma_cons (me_tup (ma_cons (me_tup (ma_cons (me_var (i := 3)) (ma_cons (me_var (i := 2)) (ma_nil)))) (ma_nil))) (ma_nil))))))))
  (mss_one (ms_ret (me_var (i := 3))))))))
theorem sc38 : FnScope ["self", "which"] ["self", "which"] (defScope s38) := ⟨rfl, rfl, rfl, by decide +kernel, rfl, by decide +kernel, by decide +kernel⟩
theorem ok_House_there (E : Env K mg) : FnM P w K mg base (Gb K) 2 (He.ma K (He.ga K "House") "there") 2 m_House_there := by
  have sc := sc38
  obtain ⟨fd, D⟩ := E.D38
  exact FnM.of D sc (fun _ _ _ _ _ _ us hl => match us, hl with | [_, _], _ => rfl) (fun cdv A outer s H E0 hr =>
  mss_cons (ms_if (MW.mt (mw_or (mt_cmp (om_notIn hr.u65) (me_var (i := 1)) (me_fld (me_var (i := 0)) rfl E.c_House E.na_House_shelf nd_House rfl) (by with_unfolding_all rfl)) (mw_or1 (mt_tru (me_call (FnM.mono (ok_is_gone E) (by decide)) hr (takes_of rfl rfl rfl rfl) rfl E.g_is_gone (ma_cons (me_ix (om_ix hr.u1) (me_fld (me_var (i := 0)) rfl E.c_House E.na_House_shelf nd_House rfl) (me_var (i := 1))) (ma_nil)) (al_cons al_nil)))))) (mss_one (ms_raise rfl (takes_of rfl rfl rfl rfl) PySem.F.excBase_ValueError E.x_NoFile rfl E.g_NoFile E.k_NoFile (raises_own E.sb_NoFile E.ty_NoFile) rfl)) (mss_nil))
  (mss_one (ms_ret (me_ix (om_ix hr.u1) (me_fld (me_var (i := 0)) rfl E.c_House E.na_House_shelf nd_House rfl) (me_var (i := 1))))))
theorem sc39 : FnScope ["self", "which", "text", "file", "mark"] ["self", "which", "text"] (defScope s39) := ⟨rfl, rfl, rfl, by decide +kernel, rfl, by decide +kernel, by decide +kernel⟩
theorem ok_House_write (E : Env K mg) : FnM P w K mg base (Gb K) 3 (He.ma K (He.ga K "House") "write") 3 m_House_write := by
  have sc := sc39
  obtain ⟨fd, D⟩ := E.D39
  exact FnM.of D sc (fun _ _ _ _ _ _ us hl => match us, hl with | [_, _, _], _ => rfl) (fun cdv A outer s H E0 hr =>
  mss_cons (ms_set (i := 3) sc.nd (me_meth (me_var (i := 0)) rfl E.c_House E.m_House_there nf_House_there (FnM.mono (ok_House_there E) (by decide)) hr (takes_of rfl rfl rfl rfl) (ma_cons (me_var (i := 1)) (ma_nil)) (al_cons al_nil)))
  (mss_cons (ms_expr (me_meth (me_var (i := 0)) rfl E.c_House E.m_House_must_be_text nf_House_must_be_text (FnM.mono (ok_House_must_be_text E) (by decide)) hr (takes_of rfl rfl rfl rfl) (ma_cons (me_var (i := 2)) (ma_nil)) (al_cons al_nil)))
  (mss_cons (ms_set (i := 4) sc.nd (me_meth0 (me_var (i := 0)) rfl E.c_House E.m_House_next_mark nf_House_next_mark (FnM.mono (ok_House_next_mark E) (by decide)) hr (takes_of rfl rfl rfl rfl)))
  (mss_one (ms_sub hr.u1 (me_fld (me_var (i := 0)) rfl E.c_House E.na_House_shelf nd_House rfl) (me_var (i := 1)) (me_tup (ma_cons (me_var (i := 1)) (ma_cons (me_ix (om_ix hr.u1) (me_var (i := 3)) (me_int)) (ma_cons (me_call (FnM.mono (ok_known_together E) (by decide)) hr (takes_of rfl rfl rfl rfl) rfl E.g_known_together (ma_cons (me_ix (om_ix hr.u1) (me_var (i := 3)) (me_int)) (ma_cons (me_tup (ma_cons (me_var (i := 4)) (ma_nil))) (ma_nil))) (al_cons (al_cons al_nil))) (ma_cons (me_ix (om_ix hr.u1) (me_var (i := 3)) (me_int)) (ma_cons (me_tup (ma_cons (me_tup (ma_cons (me_var (i := 4)) (ma_cons (me_var (i := 2)) (ma_nil)))) (ma_nil))) (ma_nil))))))))))))
theorem sc40 : FnScope ["self", "which", "name", "file", "mark"] ["self", "which", "name"] (defScope s40) := ⟨rfl, rfl, rfl, by decide +kernel, rfl, by decide +kernel, by decide +kernel⟩
theorem ok_House_rename (E : Env K mg) : FnM P w K mg base (Gb K) 3 (He.ma K (He.ga K "House") "rename") 3 m_House_rename := by
  have sc := sc40
  obtain ⟨fd, D⟩ := E.D40
  exact FnM.of D sc (fun _ _ _ _ _ _ us hl => match us, hl with | [_, _, _], _ => rfl) (fun cdv A outer s H E0 hr =>
  mss_cons (ms_set (i := 3) sc.nd (me_meth (me_var (i := 0)) rfl E.c_House E.m_House_there nf_House_there (FnM.mono (ok_House_there E) (by decide)) hr (takes_of rfl rfl rfl rfl) (ma_cons (me_var (i := 1)) (ma_nil)) (al_cons al_nil)))
  (mss_cons (ms_expr (me_meth (me_var (i := 0)) rfl E.c_House E.m_House_must_be_name nf_House_must_be_name (FnM.mono (ok_House_must_be_name E) (by decide)) hr (takes_of rfl rfl rfl rfl) (ma_cons (me_var (i := 2)) (ma_nil)) (al_cons al_nil)))
  (mss_cons (ms_set (i := 4) sc.nd (me_meth0 (me_var (i := 0)) rfl E.c_House E.m_House_next_mark nf_House_next_mark (FnM.mono (ok_House_next_mark E) (by decide)) hr (takes_of rfl rfl rfl rfl)))
  (mss_one (ms_sub hr.u1 (me_fld (me_var (i := 0)) rfl E.c_House E.na_House_shelf nd_House rfl) (me_var (i := 1)) (me_tup (ma_cons (me_var (i := 1)) (ma_cons (me_ix (om_ix hr.u1) (me_var (i := 3)) (me_int)) (ma_cons (me_call (FnM.mono (ok_known_together E) (by decide)) hr (takes_of rfl rfl rfl rfl) rfl E.g_known_together (ma_cons (me_ix (om_ix hr.u1) (me_var (i := 3)) (me_int)) (ma_cons (me_tup (ma_cons (me_var (i := 4)) (ma_nil))) (ma_nil))) (al_cons (al_cons al_nil))) (ma_cons (me_tup (ma_cons (me_tup (ma_cons (me_var (i := 4)) (ma_cons (me_var (i := 2)) (ma_nil)))) (ma_nil))) (ma_cons (me_ix (om_ix hr.u1) (me_var (i := 3)) (me_int)) (ma_nil))))))))))))
theorem sc41 : FnScope ["self", "which", "file"] ["self", "which"] (defScope s41) := ⟨rfl, rfl, rfl, by decide +kernel, rfl, by decide +kernel, by decide +kernel⟩
theorem ok_House_drop (E : Env K mg) : FnM P w K mg base (Gb K) 3 (He.ma K (He.ga K "House") "drop") 2 m_House_drop := by
  have sc := sc41
  obtain ⟨fd, D⟩ := E.D41
  exact FnM.of D sc (fun _ _ _ _ _ _ us hl => match us, hl with | [_, _], _ => rfl) (fun cdv A outer s H E0 hr =>
  mss_cons (ms_set (i := 2) sc.nd (me_meth (me_var (i := 0)) rfl E.c_House E.m_House_there nf_House_there (FnM.mono (ok_House_there E) (by decide)) hr (takes_of rfl rfl rfl rfl) (ma_cons (me_var (i := 1)) (ma_nil)) (al_cons al_nil)))
  (mss_one (ms_sub hr.u1 (me_fld (me_var (i := 0)) rfl E.c_House E.na_House_shelf nd_House rfl) (me_var (i := 1)) (me_tup (ma_cons (me_var (i := 1)) (ma_cons (me_ix (om_ix hr.u1) (me_var (i := 2)) (me_int)) (ma_cons (me_call (FnM.mono (ok_known_together E) (by decide)) hr (takes_of rfl rfl rfl rfl) rfl E.g_known_together (ma_cons (me_ix (om_ix hr.u1) (me_var (i := 2)) (me_int)) (ma_cons (me_tup (ma_cons (me_meth0 (me_var (i := 0)) rfl E.c_House E.m_House_next_mark nf_House_next_mark (FnM.mono (ok_House_next_mark E) (by decide)) hr (takes_of rfl rfl rfl rfl)) (ma_nil))) (ma_nil))) (al_cons (al_cons al_nil))) (ma_cons (me_tup (ma_nil)) (ma_cons (me_tup (ma_nil)) (ma_nil))))))))))
theorem sc42 : FnScope ["_law_state", "_law_cell_here", "_law_houses", "_law_numbers", "_law_counts", "_law_acts", "_law_books", "_law_at", "_law_live", "_law_file", "_law_kind", "_law_name_here", "_law_what", "_law_mark", "_law_told", "_law_past", "_law_k"] ["_law_state", "_law_cell_here"] (defScope s42) := ⟨rfl, rfl, rfl, by decide +kernel, rfl, by decide +kernel, by decide +kernel⟩
theorem ok_law_deed (E : Env K mg) : FnM P w K mg base (Gb K) 33 (He.ga K "_law_deed") 2 m_law_deed := by
  have sc := sc42
  obtain ⟨fd, D⟩ := E.D42
  exact FnM.of D sc (fun _ _ _ _ _ _ us hl => match us, hl with | [_, _], _ => rfl) (fun cdv A outer s H E0 hr =>
  mss_cons (ms_asg (me_var (i := 0)) (mg_tup rfl (mgs_cons (mg_name sc.nd) (mgs_cons (mg_name sc.nd) (mgs_cons (mg_name sc.nd) (mgs_cons (mg_name sc.nd) (mgs_cons (mg_name sc.nd) (mgs_nil))))))))
  (mss_cons (ms_set (i := 7) sc.nd (me_op om_mod (me_var (i := 1)) (me_bi cm_len rfl E.n_len boot_len (ma_cons (me_var (i := 2)) (ma_nil)))))
  (mss_cons (ms_setLc (own := [("_law_file", 9)]) (.inl rfl) rfl sc.nd rfl rfl rfl (mi_val (me_call (FnM.mono (ok_law_files E) (by decide)) hr (takes_of rfl rfl rfl rfl) rfl E.g__law_files (ma_cons (me_var (i := 0)) (ma_cons (me_var (i := 7)) (ma_nil))) (al_cons (al_cons al_nil)))) (blkOk_by (by kernel_rfl)) (fun _ _ _ _ _ => mg_name sc.nd) (fun _ _ _ _ _ => mts_one (mt_tru (me_ix (om_ix hr.u1) (me_var (i := 9)) (me_int)))) (fun _ _ _ _ _ => me_var (i := 9)) (by decide))
  (mss_cons (ms_set (i := 10) sc.nd (me_ix (om_ix hr.u1) (me_tup (ma_cons (me_str) (ma_cons (me_str) (ma_cons (me_str) (ma_cons (me_str) (ma_cons (me_str) (ma_cons (me_str) (ma_nil)))))))) (me_call (FnM.mono (ok_law_mix E) (by decide)) hr (takes_of rfl rfl rfl rfl) rfl E.g__law_mix (ma_cons (me_var (i := 1)) (ma_cons (me_int) (ma_cons (me_int) (ma_nil)))) (al_cons (al_cons (al_cons al_nil))))))
  (mss_cons (ms_set (i := 11) sc.nd (me_call (FnM.mono (ok_law_name E) (by decide)) hr (takes_of rfl rfl rfl rfl) rfl E.g__law_name (ma_cons (me_op om_add (me_var (i := 1)) (me_int)) (ma_nil)) (al_cons al_nil)))
  (mss_cons (ms_set (i := 12) sc.nd (me_call (FnM.mono (ok_law_text E) (by decide)) hr (takes_of rfl rfl rfl rfl) rfl E.g__law_text (ma_cons (me_op om_add (me_var (i := 1)) (me_int)) (ma_nil)) (al_cons al_nil)))
  (mss_cons (ms_sub hr.u1 (me_var (i := 4)) (me_var (i := 7)) (me_op om_add (me_ix (om_ix hr.u1) (me_var (i := 4)) (me_var (i := 7))) (me_int)))
  (mss_cons (ms_set (i := 13) sc.nd (me_tup (ma_cons (me_ix (om_ix hr.u1) (me_var (i := 3)) (me_var (i := 7))) (ma_cons (me_ix (om_ix hr.u1) (me_var (i := 4)) (me_var (i := 7))) (ma_nil)))))
  (mss_cons (ms_if (MW.mt (mw_or (mt_cmp (om_eq hr.units) (me_var (i := 10)) (me_str) (nomark _)) (mw_or1 (mt_not (mt_tru (me_var (i := 8))))))) (mss_cons (ms_set (i := 14) sc.nd (me_call (FnM.mono (ok_law_same E) (by decide)) hr (takes_of rfl rfl rfl rfl) rfl E.g__law_same (ma_cons (me_meth (me_ix (om_ix hr.u1) (me_var (i := 2)) (me_var (i := 7))) rfl E.c_House E.m_House_make nf_House_make (FnM.mono (ok_House_make E) (by decide)) hr (takes_of rfl rfl rfl rfl) (ma_cons (me_var (i := 11)) (ma_cons (me_var (i := 12)) (ma_nil))) (al_cons (al_cons al_nil))) (ma_cons (me_var (i := 13)) (ma_nil))) (al_cons (al_cons al_nil))))
  (mss_cons (ms_set (i := 9) sc.nd (me_tup (ma_cons (me_var (i := 13)) (ma_cons (me_var (i := 11)) (ma_nil)))))
  (mss_one (ms_set (i := 10) sc.nd (me_str))))) (mss_cons (ms_set (i := 9) sc.nd (me_ix (om_ix hr.u1) (me_var (i := 8)) (me_call (FnM.mono (ok_law_mix E) (by decide)) hr (takes_of rfl rfl rfl rfl) rfl E.g__law_mix (ma_cons (me_var (i := 1)) (ma_cons (me_int) (ma_cons (me_bi cm_len rfl E.n_len boot_len (ma_cons (me_var (i := 8)) (ma_nil))) (ma_nil)))) (al_cons (al_cons (al_cons al_nil))))))
  (mss_one (ms_if (mt_cmp (om_eq hr.units) (me_var (i := 10)) (me_str) (nomark _)) (mss_one (ms_set (i := 14) sc.nd (me_cmp om_is (me_meth (me_ix (om_ix hr.u1) (me_var (i := 2)) (me_var (i := 7))) rfl E.c_House E.m_House_write nf_House_write (FnM.mono (ok_House_write E) (by decide)) hr (takes_of rfl rfl rfl rfl) (ma_cons (me_ix (om_ix hr.u1) (me_var (i := 9)) (me_int)) (ma_cons (me_var (i := 12)) (ma_nil))) (al_cons (al_cons al_nil))) (me_non) (nomark _)))) (mss_one (ms_if (mt_cmp (om_eq hr.units) (me_var (i := 10)) (me_str) (nomark _)) (mss_cons (ms_set (i := 14) sc.nd (me_cmp om_is (me_meth (me_ix (om_ix hr.u1) (me_var (i := 2)) (me_var (i := 7))) rfl E.c_House E.m_House_rename nf_House_rename (FnM.mono (ok_House_rename E) (by decide)) hr (takes_of rfl rfl rfl rfl) (ma_cons (me_ix (om_ix hr.u1) (me_var (i := 9)) (me_int)) (ma_cons (me_var (i := 11)) (ma_nil))) (al_cons (al_cons al_nil))) (me_non) (nomark _)))
  (mss_one (ms_set (i := 12) sc.nd (me_var (i := 11))))) (mss_one (ms_set (i := 14) sc.nd (me_cmp om_is (me_meth (me_ix (om_ix hr.u1) (me_var (i := 2)) (me_var (i := 7))) rfl E.c_House E.m_House_drop nf_House_drop (FnM.mono (ok_House_drop E) (by decide)) hr (takes_of rfl rfl rfl rfl) (ma_cons (me_ix (om_ix hr.u1) (me_var (i := 9)) (me_int)) (ma_nil)) (al_cons al_nil)) (me_non) (nomark _))))))))))
  (mss_cons (ms_lock (which := e2 vIx (eVar 6) (eVar 7)) (ms_setLc (own := [("_law_k", 16)]) (.inl rfl) rfl sc.nd rfl rfl rfl (mi_keys (me_ix (om_ix hr.u1) (me_var (i := 6)) (me_var (i := 7)))) (blkOk_by (by kernel_rfl)) (fun _ _ _ _ _ => mg_name sc.nd) (fun _ _ _ _ _ => mts_one (mt_cmp (om_eq hr.units) (me_ix (om_ix hr.u1) (me_ix (om_ix hr.u1) (me_var (i := 5)) (me_var (i := 16))) (me_int)) (me_ix (om_ix hr.u1) (me_var (i := 9)) (me_int)) (nomark _))) (fun _ _ _ _ _ => me_var (i := 16)) (by decide)))
  (mss_cons (ms_sub hr.u1 (me_ix (om_ix hr.u1) (me_var (i := 6)) (me_var (i := 7))) (me_bi cm_len rfl E.n_len boot_len (ma_cons (me_var (i := 5)) (ma_nil))) (me_bl))
  (mss_cons (ms_expr (me_bm (T := .list) mm_append PySem.F.plainAttrs_list PySem.F.slot_list_append PySem.F.type_list_append (me_var (i := 5)) (ma_cons (me_tup (ma_cons (me_ix (om_ix hr.u1) (me_var (i := 9)) (me_int)) (ma_cons (me_var (i := 13)) (ma_cons (me_var (i := 10)) (ma_cons (me_var (i := 12)) (ma_cons (me_var (i := 15)) (ma_cons (me_ix (om_ix hr.u1) (me_var (i := 9)) (me_int)) (ma_nil)))))))) (ma_nil))))
  (mss_one (ms_ret (me_var (i := 14))))))))))))))))
theorem sc43 : FnScope ["_law_state", "_law_cell_here", "_law_houses", "_law_numbers", "_law_counts", "_law_acts", "_law_books", "_law_giver", "_law_to", "_law_files_here", "_law_file", "_law_has", "_law_k", "_law_due"] ["_law_state", "_law_cell_here"] (defScope s43) := ⟨rfl, rfl, rfl, by decide +kernel, rfl, by decide +kernel, by decide +kernel⟩
theorem ok_law_led_v1 (E : Env K mg) : FnM P w K mg base (Gb K) 33 (He.ga K "_law_led") 2 m_law_led_v1 := by
  have sc := sc43
  obtain ⟨fd, D⟩ := E.D43
  exact FnM.of D sc (fun _ _ _ _ _ _ us hl => match us, hl with | [_, _], _ => rfl) (fun cdv A outer s H E0 hr =>
  mss_cons (ms_asg (me_var (i := 0)) (mg_tup rfl (mgs_cons (mg_name sc.nd) (mgs_cons (mg_name sc.nd) (mgs_cons (mg_name sc.nd) (mgs_cons (mg_name sc.nd) (mgs_cons (mg_name sc.nd) (mgs_nil))))))))
  (mss_cons (ms_set (i := 7) sc.nd (me_call (FnM.mono (ok_law_mix E) (by decide)) hr (takes_of rfl rfl rfl rfl) rfl E.g__law_mix (ma_cons (me_var (i := 1)) (ma_cons (me_int) (ma_cons (me_int) (ma_nil)))) (al_cons (al_cons (al_cons al_nil)))))
  (mss_cons (ms_set (i := 8) sc.nd (me_op om_mod (me_op om_add (me_op om_add (me_var (i := 7)) (me_int)) (me_call (FnM.mono (ok_law_mix E) (by decide)) hr (takes_of rfl rfl rfl rfl) rfl E.g__law_mix (ma_cons (me_var (i := 1)) (ma_cons (me_int) (ma_cons (me_int) (ma_nil)))) (al_cons (al_cons (al_cons al_nil))))) (me_int)))
  (mss_cons (ms_set (i := 9) sc.nd (me_call (FnM.mono (ok_law_files E) (by decide)) hr (takes_of rfl rfl rfl rfl) rfl E.g__law_files (ma_cons (me_var (i := 0)) (ma_cons (me_var (i := 7)) (ma_nil))) (al_cons (al_cons al_nil))))
  (mss_cons (ms_if (mt_not (mt_tru (me_var (i := 9)))) (mss_one (ms_ret (me_bl))) (mss_nil))
  (mss_cons (ms_set (i := 10) sc.nd (me_ix (om_ix hr.u1) (me_var (i := 9)) (me_call (FnM.mono (ok_law_mix E) (by decide)) hr (takes_of rfl rfl rfl rfl) rfl E.g__law_mix (ma_cons (me_var (i := 1)) (ma_cons (me_int) (ma_cons (me_bi cm_len rfl E.n_len boot_len (ma_cons (me_var (i := 9)) (ma_nil))) (ma_nil)))) (al_cons (al_cons (al_cons al_nil))))))
  (mss_cons (ms_set (i := 11) sc.nd (me_bi (cm_any rfl) rfl E.n_any PyProof.Rows.boot_any (ma_cons (me_lock (which := e2 vIx (eVar 6) (eVar 8)) (me_lc (own := [("_law_k", 12)]) (.inl rfl) rfl sc.nd (mi_keys (me_ix (om_ix hr.u1) (me_var (i := 6)) (me_var (i := 8)))) (blkOk_by (by kernel_rfl)) (fun _ _ _ _ _ => mg_name sc.nd) (fun _ _ _ _ _ => mts_nil) (fun _ _ _ _ _ => me_cmp (om_eq hr.units) (me_ix (om_ix hr.u1) (me_ix (om_ix hr.u1) (me_var (i := 5)) (me_var (i := 12))) (me_int)) (me_ix (om_ix hr.u1) (me_var (i := 10)) (me_int)) (nomark _)) (by decide))) (ma_nil))))
  (mss_cons (ms_set (i := 13) sc.nd (me_bi (cm_any rfl) rfl E.n_any PyProof.Rows.boot_any (ma_cons (me_lock (which := e2 vIx (eVar 6) (eVar 7)) (me_lc (own := [("_law_k", 12)]) (.inl rfl) rfl sc.nd (mi_keys (me_ix (om_ix hr.u1) (me_var (i := 6)) (me_var (i := 7)))) (blkOk_by (by kernel_rfl)) (fun _ _ _ _ _ => mg_name sc.nd) (fun _ _ _ _ _ => mts_nil) (fun _ _ _ _ _ => me_and (me_cmp (om_eq hr.units) (me_ix (om_ix hr.u1) (me_ix (om_ix hr.u1) (me_var (i := 5)) (me_var (i := 12))) (me_int)) (me_ix (om_ix hr.u1) (me_var (i := 10)) (me_int)) (nomark _)) (me_one (me_cmp (om_notIn hr.u65) (me_var (i := 12)) (me_ix (om_ix hr.u1) (me_var (i := 6)) (me_var (i := 8))) (by with_unfolding_all rfl)))) (by decide))) (ma_nil))))
  (mss_cons (ms_if (MW.mt (mw_and (mt_not (mt_tru (me_ix (om_ix hr.u1) (me_var (i := 10)) (me_int)))) (mw_and1 (mt_not (mt_tru (me_var (i := 11))))))) (mss_one (ms_set (i := 13) sc.nd (me_bl))) (mss_one (ms_expr (me_call (FnM.mono (ok_law_tell E) (by decide)) hr (takes_of rfl rfl rfl rfl) rfl E.g__law_tell (ma_cons (me_var (i := 0)) (ma_cons (me_var (i := 8)) (ma_cons (me_var (i := 7)) (ma_cons (me_ix (om_ix hr.u1) (me_var (i := 10)) (me_int)) (ma_nil))))) (al_cons (al_cons (al_cons (al_cons al_nil))))))))
  (mss_one (ms_ret (me_call (FnM.mono (ok_law_same E) (by decide)) hr (takes_of rfl rfl rfl rfl) rfl E.g__law_same (ma_cons (me_meth (me_ix (om_ix hr.u1) (me_var (i := 2)) (me_var (i := 8))) rfl E.c_House E.m_House_lead_on nf_House_lead_on (FnM.mono (ok_House_lead_on E) (by decide)) hr (takes_of rfl rfl rfl rfl) (ma_cons (me_meth (me_ix (om_ix hr.u1) (me_var (i := 2)) (me_var (i := 7))) rfl E.c_House E.m_House_file nf_House_file (FnM.mono (ok_House_file E) (by decide)) hr (takes_of rfl rfl rfl rfl) (ma_cons (me_ix (om_ix hr.u1) (me_var (i := 10)) (me_int)) (ma_nil)) (al_cons al_nil)) (ma_nil)) (al_cons al_nil)) (ma_cons (me_var (i := 13)) (ma_nil))) (al_cons (al_cons al_nil))))))))))))))
theorem sc44 : FnScope ["_law_state", "_law_told", "_law_out", "_law_cell_here", "_law_kind", "_law_at", "_law_live", "_law_file", "_law_books", "_law_which", "_law_past", "_law_k", "_law_other"] ["_law_state", "_law_told", "_law_out", "_law_cell_here"] (defScope s44) := ⟨rfl, rfl, rfl, by decide +kernel, rfl, by decide +kernel, by decide +kernel⟩
theorem ok_law_turn_v3 (E : Env K mg) : FnM P w K mg base (Gb K) 34 (He.ga K "_law_turn") 4 m_law_turn_v3 := by
  have sc := sc44
  obtain ⟨fd, D⟩ := E.D44
  exact FnM.of D sc (fun _ _ _ _ _ _ us hl => match us, hl with | [_, _, _, _], _ => rfl) (fun cdv A outer s H E0 hr =>
  mss_cons (ms_set (i := 4) sc.nd (me_call (FnM.mono (ok_law_mix E) (by decide)) hr (takes_of rfl rfl rfl rfl) rfl E.g__law_mix (ma_cons (me_var (i := 3)) (ma_cons (me_int) (ma_cons (me_int) (ma_nil)))) (al_cons (al_cons (al_cons al_nil)))))
  (mss_cons (ms_set (i := 5) sc.nd (me_call (FnM.mono (ok_law_mix E) (by decide)) hr (takes_of rfl rfl rfl rfl) rfl E.g__law_mix (ma_cons (me_var (i := 3)) (ma_cons (me_int) (ma_cons (me_int) (ma_nil)))) (al_cons (al_cons (al_cons al_nil)))))
  (mss_cons (ms_setLc (own := [("_law_file", 7)]) (.inl rfl) rfl sc.nd rfl rfl rfl (mi_val (me_call (FnM.mono (ok_law_files E) (by decide)) hr (takes_of rfl rfl rfl rfl) rfl E.g__law_files (ma_cons (me_var (i := 0)) (ma_cons (me_var (i := 5)) (ma_nil))) (al_cons (al_cons al_nil)))) (blkOk_by (by kernel_rfl)) (fun _ _ _ _ _ => mg_name sc.nd) (fun _ _ _ _ _ => mts_one (mt_tru (me_ix (om_ix hr.u1) (me_var (i := 7)) (me_int)))) (fun _ _ _ _ _ => me_ix (om_ix hr.u1) (me_var (i := 7)) (me_int)) (by decide))
  (mss_cons (ms_if (MW.mt (mw_or (mt_cmp om_lt (me_var (i := 4)) (me_int) (nomark _)) (mw_or1 (MW.mt (mw_and (mt_cmp (om_eq hr.units) (me_var (i := 4)) (me_int) (nomark _)) (mw_and1 (mt_not (mt_tru (me_var (i := 6)))))))))) (mss_one (ms_ret (me_call (FnM.mono (ok_law_deed E) (by decide)) hr (takes_of rfl rfl rfl rfl) rfl E.g__law_deed (ma_cons (me_var (i := 0)) (ma_cons (me_var (i := 3)) (ma_nil))) (al_cons (al_cons al_nil))))) (mss_nil))
  (mss_cons (ms_if (mt_cmp (om_eq hr.units) (me_var (i := 4)) (me_int) (nomark _)) (mss_cons (ms_set (i := 8) sc.nd (me_ix (om_ix hr.u1) (me_var (i := 0)) (me_int)))
  (mss_cons (ms_sub hr.u1 (me_ix (om_ix hr.u1) (me_var (i := 0)) (me_int)) (me_var (i := 5)) (me_op om_add (me_ix (om_ix hr.u1) (me_ix (om_ix hr.u1) (me_var (i := 0)) (me_int)) (me_var (i := 5))) (me_int)))
  (mss_cons (ms_set (i := 9) sc.nd (me_ix (om_ix hr.u1) (me_var (i := 6)) (me_call (FnM.mono (ok_law_mix E) (by decide)) hr (takes_of rfl rfl rfl rfl) rfl E.g__law_mix (ma_cons (me_var (i := 3)) (ma_cons (me_int) (ma_cons (me_bi cm_len rfl E.n_len boot_len (ma_cons (me_var (i := 6)) (ma_nil))) (ma_nil)))) (al_cons (al_cons (al_cons al_nil))))))
  (mss_cons (ms_lock (which := e2 vIx (eVar 8) (eVar 5)) (ms_setLc (own := [("_law_k", 11)]) (.inl rfl) rfl sc.nd rfl rfl rfl (mi_keys (me_ix (om_ix hr.u1) (me_var (i := 8)) (me_var (i := 5)))) (blkOk_by (by kernel_rfl)) (fun _ _ _ _ _ => mg_name sc.nd) (fun _ _ _ _ _ => mts_one (mt_cmp (om_eq hr.units) (me_ix (om_ix hr.u1) (me_ix (om_ix hr.u1) (me_ix (om_ix hr.u1) (me_var (i := 0)) (me_int)) (me_var (i := 11))) (me_int)) (me_var (i := 9)) (nomark _))) (fun _ _ _ _ _ => me_var (i := 11)) (by decide)))
  (mss_cons (ms_sub hr.u1 (me_ix (om_ix hr.u1) (me_var (i := 8)) (me_var (i := 5))) (me_bi cm_len rfl E.n_len boot_len (ma_cons (me_ix (om_ix hr.u1) (me_var (i := 0)) (me_int)) (ma_nil))) (me_bl))
  (mss_cons (ms_expr (me_bm (T := .list) mm_append PySem.F.plainAttrs_list PySem.F.slot_list_append PySem.F.type_list_append (me_ix (om_ix hr.u1) (me_var (i := 0)) (me_int)) (ma_cons (me_tup (ma_cons (me_var (i := 9)) (ma_cons (me_tup (ma_cons (me_ix (om_ix hr.u1) (me_ix (om_ix hr.u1) (me_var (i := 0)) (me_int)) (me_var (i := 5))) (ma_cons (me_ix (om_ix hr.u1) (me_ix (om_ix hr.u1) (me_var (i := 0)) (me_int)) (me_var (i := 5))) (ma_nil)))) (ma_cons (me_str) (ma_cons (me_str) (ma_cons (me_var (i := 10)) (ma_cons (me_ix (om_ix hr.u1) (me_ix (om_ix hr.u1) (me_ix (om_ix hr.u1) (me_var (i := 0)) (me_int)) (me_ix (om_ix hr.u1) (me_var (i := 10)) (me_int))) (me_int)) (ma_nil)))))))) (ma_nil))))
  (mss_one (ms_ret (me_cmp om_is (me_meth (me_ix (om_ix hr.u1) (me_ix (om_ix hr.u1) (me_var (i := 0)) (me_int)) (me_var (i := 5))) rfl E.c_House E.m_House_drop nf_House_drop (FnM.mono (ok_House_drop E) (by decide)) hr (takes_of rfl rfl rfl rfl) (ma_cons (me_var (i := 9)) (ma_nil)) (al_cons al_nil)) (me_non) (nomark _)))))))))) (mss_nil))
  (mss_cons (ms_if (mt_cmp om_lt (me_var (i := 4)) (me_int) (nomark _)) (mss_one (ms_ret (me_call (FnM.mono (ok_law_led_v1 E) (by decide)) hr (takes_of rfl rfl rfl rfl) rfl E.g__law_led (ma_cons (me_var (i := 0)) (ma_cons (me_var (i := 3)) (ma_nil))) (al_cons (al_cons al_nil))))) (mss_nil))
  (mss_cons (ms_set (i := 12) sc.nd (me_op om_mod (me_op om_add (me_op om_add (me_var (i := 5)) (me_int)) (me_call (FnM.mono (ok_law_mix E) (by decide)) hr (takes_of rfl rfl rfl rfl) rfl E.g__law_mix (ma_cons (me_var (i := 3)) (ma_cons (me_int) (ma_cons (me_int) (ma_nil)))) (al_cons (al_cons (al_cons al_nil))))) (me_int)))
  (mss_cons (ms_if (mt_cmp om_lt (me_var (i := 4)) (me_int) (nomark _)) (mss_cons (ms_sub hr.u1 (me_var (i := 1)) (me_tup (ma_cons (me_var (i := 5)) (ma_cons (me_var (i := 12)) (ma_nil)))) (me_biT (cm_dictT rfl hr.u65) rfl E.n_dict PyProof.Rows.boot_dict (ma_cons (me_lc (own := [("_law_file", 7)]) (.inl rfl) rfl sc.nd (mi_val (me_call (FnM.mono (ok_law_files E) (by decide)) hr (takes_of rfl rfl rfl rfl) rfl E.g__law_files (ma_cons (me_var (i := 0)) (ma_cons (me_var (i := 12)) (ma_nil))) (al_cons (al_cons al_nil)))) (blkOk_by (by kernel_rfl)) (fun _ _ _ _ _ => mg_name sc.nd) (fun _ _ _ _ _ => mts_nil) (fun _ _ _ _ _ => me_tup (ma_cons (me_ix (om_ix hr.u1) (me_var (i := 7)) (me_int)) (ma_cons (me_ix (om_ix hr.u1) (me_var (i := 7)) (me_int)) (ma_nil)))) (by decide)) (ma_nil))))
  (mss_one (ms_ret (me_cmp om_is (me_meth (me_ix (om_ix hr.u1) (me_ix (om_ix hr.u1) (me_var (i := 0)) (me_int)) (me_var (i := 5))) rfl E.c_House E.m_House_told_by nf_House_told_by (FnM.mono (ok_House_told_by E) (by decide)) hr (takes_of rfl rfl rfl rfl) (ma_cons (me_ix (om_ix hr.u1) (me_ix (om_ix hr.u1) (me_var (i := 0)) (me_int)) (me_var (i := 12))) (ma_cons (me_meth0 (me_ix (om_ix hr.u1) (me_ix (om_ix hr.u1) (me_var (i := 0)) (me_int)) (me_var (i := 12))) rfl E.c_House E.m_House_heard nf_House_heard (FnM.mono (ok_House_heard E) (by decide)) hr (takes_of rfl rfl rfl rfl)) (ma_nil))) (al_cons (al_cons al_nil))) (me_non) (nomark _))))) (mss_nil))
  (mss_one (ms_ret (me_call (FnM.mono (ok_law_forget E) (by decide)) hr (takes_of rfl rfl rfl rfl) rfl E.g__law_forget (ma_cons (me_var (i := 0)) (ma_cons (me_var (i := 1)) (ma_cons (me_var (i := 2)) (ma_cons (me_var (i := 5)) (ma_nil))))) (al_cons (al_cons (al_cons (al_cons al_nil)))))))))))))))
theorem sc45 : FnScope ["_law_script", "_law_state", "_law_told", "_law_k", "_law_out", "_law_at"] ["_law_script"] (defScope s45) := ⟨rfl, rfl, rfl, by decide +kernel, rfl, by decide +kernel, by decide +kernel⟩
theorem ok_law (E : Env K mg) {fd : FuncData} (D : FunD K "law" "law" (defArgs s45) (defBody s45) (defScope s45) [] [] (He.ga K "law") fd) : FnOk P w K mg base (L2.CX P w) 35 (He.ga K "law") fd ["_law_script"] (spM (Gb K) 1 m_law_k31) := by
  have sc := sc45
  exact FnM.at_ D sc (fun cdv A outer s H E0 hr =>
  mss_cons (ms_set (i := 1) sc.nd (me_call (FnM.mono (ok_law_start E) (by decide)) hr (takes_of rfl rfl rfl rfl) rfl E.g__law_start (ma_cons (me_var (i := 0)) (ma_cons (me_int) (ma_nil))) (al_cons (al_cons al_nil))))
  (mss_cons (ms_set (i := 2) sc.nd (me_dictT))
  (mss_cons (ms_for (passes_of rfl) rfl (mi_range1 rfl E.n_range (ma_cons (me_int) (ma_nil))) (mg_name sc.nd) (mss_one (ms_sub hr.u1 (me_var (i := 2)) (me_tup (ma_cons (me_op om_fdiv (me_var (i := 3)) (me_int)) (ma_cons (me_op om_mod (me_var (i := 3)) (me_int)) (ma_nil)))) (me_dictT))))
  (mss_cons (ms_set (i := 4) sc.nd (me_dictQ))
  (mss_cons (ms_for (passes_of rfl) rfl (mi_range1 rfl E.n_range (ma_cons (me_int) (ma_nil))) (mg_name sc.nd) (mss_one (ms_if (MW.mt (mw_or (mt_not (mt_tru (me_call (FnM.mono (ok_law_turn_v3 E) (by decide)) hr (takes_of rfl rfl rfl rfl) rfl E.g__law_turn (ma_cons (me_var (i := 1)) (ma_cons (me_var (i := 2)) (ma_cons (me_var (i := 4)) (ma_cons (me_op om_add (me_call (FnM.mono (ok_law_cell E) (by decide)) hr (takes_of rfl rfl rfl rfl) rfl E.g__law_cell (ma_cons (me_var (i := 0)) (ma_cons (me_op om_add (me_int) (me_op om_mod (me_var (i := 3)) (me_int))) (ma_nil))) (al_cons (al_cons al_nil))) (me_op om_mul (me_int) (me_var (i := 3)))) (ma_nil))))) (al_cons (al_cons (al_cons (al_cons al_nil))))))) (mw_or1 (mt_not (mt_tru (me_call (FnM.mono (ok_law_is_out E) (by decide)) hr (takes_of rfl rfl rfl rfl) rfl E.g__law_is_out (ma_cons (me_var (i := 1)) (ma_cons (me_var (i := 4)) (ma_nil))) (al_cons (al_cons al_nil)))))))) (mss_one (ms_ret (me_bl))) (mss_nil))))
  (mss_cons (ms_if (mt_cmp (om_eq hr.units) (me_op om_mod (me_call (FnM.mono (ok_law_cell E) (by decide)) hr (takes_of rfl rfl rfl rfl) rfl E.g__law_cell (ma_cons (me_var (i := 0)) (ma_cons (me_int) (ma_nil))) (al_cons (al_cons al_nil))) (me_int)) (me_int) (nomark _)) (mss_cons (ms_expr (me_call (FnM.mono (ok_law_all_told E) (by decide)) hr (takes_of rfl rfl rfl rfl) rfl E.g__law_all_told (ma_cons (me_var (i := 1)) (ma_cons (me_var (i := 2)) (ma_nil))) (al_cons (al_cons al_nil))))
  (mss_cons (ms_for (passes_of rfl) rfl (mi_val (me_call (FnM.mono (ok_law_perm E) (by decide)) hr (takes_of rfl rfl rfl rfl) rfl E.g__law_perm (ma_cons (me_call (FnM.mono (ok_law_cell E) (by decide)) hr (takes_of rfl rfl rfl rfl) rfl E.g__law_cell (ma_cons (me_var (i := 0)) (ma_cons (me_int) (ma_nil))) (al_cons (al_cons al_nil))) (ma_cons (me_int) (ma_nil))) (al_cons (al_cons al_nil)))) (mg_name sc.nd) (mss_one (ms_if (MW.mt (mw_or (mt_not (mt_tru (me_call (FnM.mono (ok_law_forget E) (by decide)) hr (takes_of rfl rfl rfl rfl) rfl E.g__law_forget (ma_cons (me_var (i := 1)) (ma_cons (me_var (i := 2)) (ma_cons (me_var (i := 4)) (ma_cons (me_var (i := 5)) (ma_nil))))) (al_cons (al_cons (al_cons (al_cons al_nil))))))) (mw_or1 (mt_not (mt_tru (me_call (FnM.mono (ok_law_is_out E) (by decide)) hr (takes_of rfl rfl rfl rfl) rfl E.g__law_is_out (ma_cons (me_var (i := 1)) (ma_cons (me_var (i := 4)) (ma_nil))) (al_cons (al_cons al_nil)))))))) (mss_one (ms_ret (me_bl))) (mss_nil))))
  (mss_one (ms_expr (me_call (FnM.mono (ok_law_all_told E) (by decide)) hr (takes_of rfl rfl rfl rfl) rfl E.g__law_all_told (ma_cons (me_var (i := 1)) (ma_cons (me_var (i := 2)) (ma_nil))) (al_cons (al_cons al_nil))))))) (mss_nil))
  (mss_one (ms_ret (me_call (FnM.mono (ok_law_is_out E) (by decide)) hr (takes_of rfl rfl rfl rfl) rfl E.g__law_is_out (ma_cons (me_var (i := 1)) (ma_cons (me_var (i := 4)) (ma_nil))) (al_cons (al_cons al_nil)))))))))))
end
theorem env {K : PySem.W.Frag} {h : Heap} {mg : Str → Option Value} (X : K.In h) (G0 : h.Ns mainGlobals mg) (c : He.SaysD fa fn K) : Env K mg where
  g__law_mix := He.glo_ok X G0 (c.fact 0 (f := .glo "_law_mix") rfl)
  g__law_perm := He.glo_ok X G0 (c.fact 1 (f := .glo "_law_perm") rfl)
  g__law_cell := He.glo_ok X G0 (c.fact 2 (f := .glo "_law_cell") rfl)
  g__law_start := He.glo_ok X G0 (c.fact 3 (f := .glo "_law_start") rfl)
  g__law_left := He.glo_ok X G0 (c.fact 4 (f := .glo "_law_left") rfl)
  g__law_files := He.glo_ok X G0 (c.fact 5 (f := .glo "_law_files") rfl)
  g__law_same := He.glo_ok X G0 (c.fact 6 (f := .glo "_law_same") rfl)
  g_is_gone := He.glo_ok X G0 (c.fact 7 (f := .glo "is_gone") rfl)
  g__law_is_right := He.glo_ok X G0 (c.fact 8 (f := .glo "_law_is_right") rfl)
  g__law_is_out := He.glo_ok X G0 (c.fact 9 (f := .glo "_law_is_out") rfl)
  g_known_together := He.glo_ok X G0 (c.fact 10 (f := .glo "known_together") rfl)
  g_is_within := He.glo_ok X G0 (c.fact 11 (f := .glo "is_within") rfl)
  g_kept_of := He.glo_ok X G0 (c.fact 12 (f := .glo "kept_of") rfl)
  g_marked_together := He.glo_ok X G0 (c.fact 13 (f := .glo "marked_together") rfl)
  g_put_together := He.glo_ok X G0 (c.fact 14 (f := .glo "put_together") rfl)
  g__law_tell := He.glo_ok X G0 (c.fact 15 (f := .glo "_law_tell") rfl)
  g__law_all_told := He.glo_ok X G0 (c.fact 16 (f := .glo "_law_all_told") rfl)
  g__law_forget := He.glo_ok X G0 (c.fact 17 (f := .glo "_law_forget") rfl)
  g__law_name := He.glo_ok X G0 (c.fact 18 (f := .glo "_law_name") rfl)
  g__law_text := He.glo_ok X G0 (c.fact 19 (f := .glo "_law_text") rfl)
  g_is_name := He.glo_ok X G0 (c.fact 20 (f := .glo "is_name") rfl)
  g_is_text := He.glo_ok X G0 (c.fact 21 (f := .glo "is_text") rfl)
  g__law_deed := He.glo_ok X G0 (c.fact 22 (f := .glo "_law_deed") rfl)
  g__law_led := He.glo_ok X G0 (c.fact 23 (f := .glo "_law_led") rfl)
  g__law_turn := He.glo_ok X G0 (c.fact 24 (f := .glo "_law_turn") rfl)
  g_law := He.glo_ok X G0 (c.fact 25 (f := .glo "law") rfl)
  n_len := He.free_ok X G0 (c.fact 26 (f := .free "len") rfl)
  n_isinstance := He.free_ok X G0 (c.fact 27 (f := .free "isinstance") rfl)
  n_all := He.free_ok X G0 (c.fact 28 (f := .free "all") rfl)
  n_any := He.free_ok X G0 (c.fact 29 (f := .free "any") rfl)
  n_range := He.free_ok X G0 (c.fact 30 (f := .free "range") rfl)
  n_sorted := He.free_ok X G0 (c.fact 31 (f := .free "sorted") rfl)
  n_tuple := He.free_ok X G0 (c.fact 32 (f := .free "tuple") rfl)
  n_dict := He.free_ok X G0 (c.fact 33 (f := .free "dict") rfl)
  n_set := He.free_ok X G0 (c.fact 34 (f := .free "set") rfl)
  n_list := He.free_ok X G0 (c.fact 35 (f := .free "list") rfl)
  n_str := He.free_ok X G0 (c.fact 36 (f := .free "str") rfl)
  n_int := He.free_ok X G0 (c.fact 37 (f := .free "int") rfl)
  n_bool := He.free_ok X G0 (c.fact 38 (f := .free "bool") rfl)
  n_max := He.free_ok X G0 (c.fact 39 (f := .free "max") rfl)
  n_zip := He.free_ok X G0 (c.fact 40 (f := .free "zip") rfl)
  LETTERS := He.str_ok X G0 (c.fact 41 (f := .str "LETTERS" "abcdefghijklmnopqrstuvwxyz") rfl)
  g_House := He.glo_ok X G0 (c.fact 42 (f := .glo "House") rfl)
  c_House := He.cls_ok (c.fact 43 (f := .cls "House") rfl)
  mk_House := He.mkr_ok (c.fact 44 (f := .mkr "House") rfl)
  m_House_ids := He.meth_ok (c.fact 45 (f := .meth "House" "ids") rfl)
  m_House_gone := He.meth_ok (c.fact 46 (f := .meth "House" "gone") rfl)
  m_House_heard := He.meth_ok (c.fact 47 (f := .meth "House" "heard") rfl)
  m_House_count := He.meth_ok (c.fact 48 (f := .meth "House" "count") rfl)
  m_House_number := He.meth_ok (c.fact 49 (f := .meth "House" "number") rfl)
  m_House_file := He.meth_ok (c.fact 50 (f := .meth "House" "file") rfl)
  m_House_told_by := He.meth_ok (c.fact 51 (f := .meth "House" "told_by") rfl)
  m_House_take := He.meth_ok (c.fact 52 (f := .meth "House" "take") rfl)
  m_House_lead_on := He.meth_ok (c.fact 53 (f := .meth "House" "lead_on") rfl)
  m_House_can_forget := He.meth_ok (c.fact 54 (f := .meth "House" "can_forget") rfl)
  m_House_forget := He.meth_ok (c.fact 55 (f := .meth "House" "forget") rfl)
  m_House_must_be_name := He.meth_ok (c.fact 56 (f := .meth "House" "must_be_name") rfl)
  m_House_must_be_text := He.meth_ok (c.fact 57 (f := .meth "House" "must_be_text") rfl)
  m_House_next_mark := He.meth_ok (c.fact 58 (f := .meth "House" "next_mark") rfl)
  m_House_make := He.meth_ok (c.fact 59 (f := .meth "House" "make") rfl)
  m_House_there := He.meth_ok (c.fact 60 (f := .meth "House" "there") rfl)
  m_House_write := He.meth_ok (c.fact 61 (f := .meth "House" "write") rfl)
  m_House_rename := He.meth_ok (c.fact 62 (f := .meth "House" "rename") rfl)
  m_House_drop := He.meth_ok (c.fact 63 (f := .meth "House" "drop") rfl)
  na_House_own := He.noat_ok (c.fact 64 (f := .noat "House" "own") rfl)
  na_House_acts := He.noat_ok (c.fact 65 (f := .noat "House" "acts") rfl)
  na_House_shelf := He.noat_ok (c.fact 66 (f := .noat "House" "shelf") rfl)
  na_House_told := He.noat_ok (c.fact 67 (f := .noat "House" "told") rfl)
  g_NoFile := He.glo_ok X G0 (c.fact 68 (f := .glo "NoFile") rfl)
  x_NoFile := (He.exc_ok (c.fact 69 (f := .exc "NoFile") rfl)).1
  k_NoFile := (He.exc_ok (c.fact 69 (f := .exc "NoFile") rfl)).2.1
  sb_NoFile := (He.exc_ok (c.fact 69 (f := .exc "NoFile") rfl)).2.2.1
  ty_NoFile := (He.exc_ok (c.fact 69 (f := .exc "NoFile") rfl)).2.2.2
  g_NoName := He.glo_ok X G0 (c.fact 70 (f := .glo "NoName") rfl)
  x_NoName := (He.exc_ok (c.fact 71 (f := .exc "NoName") rfl)).1
  k_NoName := (He.exc_ok (c.fact 71 (f := .exc "NoName") rfl)).2.1
  sb_NoName := (He.exc_ok (c.fact 71 (f := .exc "NoName") rfl)).2.2.1
  ty_NoName := (He.exc_ok (c.fact 71 (f := .exc "NoName") rfl)).2.2.2
  g_NoWords := He.glo_ok X G0 (c.fact 72 (f := .glo "NoWords") rfl)
  x_NoWords := (He.exc_ok (c.fact 73 (f := .exc "NoWords") rfl)).1
  k_NoWords := (He.exc_ok (c.fact 73 (f := .exc "NoWords") rfl)).2.1
  sb_NoWords := (He.exc_ok (c.fact 73 (f := .exc "NoWords") rfl)).2.2.1
  ty_NoWords := (He.exc_ok (c.fact 73 (f := .exc "NoWords") rfl)).2.2.2
  D0 := c.def_ 0 (d := d0) rfl
  D1 := c.def_ 1 (d := d1) rfl
  D2 := c.def_ 2 (d := d2) rfl
  D3 := c.def_ 3 (d := d3) rfl
  D4 := c.def_ 4 (d := d4) rfl
  D5 := c.def_ 5 (d := d5) rfl
  D6 := c.def_ 6 (d := d6) rfl
  D7 := c.def_ 7 (d := d7) rfl
  D8 := c.def_ 8 (d := d8) rfl
  D9 := c.def_ 9 (d := d9) rfl
  D10 := c.def_ 10 (d := d10) rfl
  D11 := c.def_ 11 (d := d11) rfl
  D12 := c.def_ 12 (d := d12) rfl
  D13 := c.def_ 13 (d := d13) rfl
  D14 := c.def_ 14 (d := d14) rfl
  D15 := c.def_ 15 (d := d15) rfl
  D16 := c.def_ 16 (d := d16) rfl
  D17 := c.def_ 17 (d := d17) rfl
  D18 := c.def_ 18 (d := d18) rfl
  D19 := c.def_ 19 (d := d19) rfl
  D20 := c.def_ 20 (d := d20) rfl
  D21 := c.def_ 21 (d := d21) rfl
  D22 := c.def_ 22 (d := d22) rfl
  D23 := c.def_ 23 (d := d23) rfl
  D24 := c.def_ 24 (d := d24) rfl
  D25 := c.def_ 25 (d := d25) rfl
  D26 := c.def_ 26 (d := d26) rfl
  D27 := c.def_ 27 (d := d27) rfl
  D28 := c.def_ 28 (d := d28) rfl
  D29 := c.def_ 29 (d := d29) rfl
  D30 := c.def_ 30 (d := d30) rfl
  D31 := c.def_ 31 (d := d31) rfl
  D32 := c.def_ 32 (d := d32) rfl
  D33 := c.def_ 33 (d := d33) rfl
  D34 := c.def_ 34 (d := d34) rfl
  D35 := c.def_ 35 (d := d35) rfl
  D36 := c.def_ 36 (d := d36) rfl
  D37 := c.def_ 37 (d := d37) rfl
  D38 := c.def_ 38 (d := d38) rfl
  D39 := c.def_ 39 (d := d39) rfl
  D40 := c.def_ 40 (d := d40) rfl
  D41 := c.def_ 41 (d := d41) rfl
  D42 := c.def_ 42 (d := d42) rfl
  D43 := c.def_ 43 (d := d43) rfl
  D44 := c.def_ 44 (d := d44) rfl
  D45 := c.def_ 45 (d := d45) rfl
end LW
open PySem PySem.W PySem.Calls PyProof.Rows
theorem PySem.Challenge.cw_twinshelves_k31_whole_forgotten_for_good_holds : PySem.Challenge.rw_twinshelves_k31_whole_forgotten_for_good.Holds := by
  w_on; o_law
  refine HandSHeadRun.head_any (r := OpenLaw.row PySem.Challenge.rw_twinshelves_k31_whole_forgotten_for_good) (q := view (OpenLaw.row PySem.Challenge.rw_twinshelves_k31_whole_forgotten_for_good).prog [37]) (H := LW.hk) (ob := LW.ob) (M := 20000) (loose := LW.loose) (d := HandSHeadRun.topDef (OpenLaw.row PySem.Challenge.rw_twinshelves_k31_whole_forgotten_for_good).prog 37) (kwd := []) LW.ob_eq
    (by kernel_rfl) (fun s => by kernel_rfl) LW.run (by kernel_rfl) (by kernel_rfl) (by kernel_rfl) (by rfl) (by first | assumption | decide +kernel) (by decide +kernel) ⟨rfl, rfl, rfl, rfl, rfl, by decide +kernel⟩ ?hw ?hc
  case hw => w_witness2
  case hc =>
    refine MM.walk_ofW (l := PySem.Challenge.rw_twinshelves_k31_whole_forgotten_for_good) (n := 63) (k := 35) (x := "_law_script") rfl (by decide) (by kernel_rfl) ⟨rfl, by decide, by decide⟩ ?F
    case F =>
      intro w mg fa h Y G hmg0
      obtain ⟨K, KX, c⟩ := Y
      have hmg : mg ("law" : PySem.Str) = some (.ref fa) := by
        have e : (HandSHeadRun.topDef (OpenLaw.row PySem.Challenge.rw_twinshelves_k31_whole_forgotten_for_good).prog 37).name = ("law" : PySem.Str) := by kernel_rfl
        rw [← e]
        exact hmg0
      have E := LW.env KX G c
      have e2 := hmg.symm.trans E.g_law
      cases e2
      obtain ⟨fd, D⟩ := E.D45
      have b := L2.FunD.bindsA (ps := ["_law_script"]) D fun _ _ _ _ _ _ us hl => match us, hl with | [_], _ => rfl
      refine ⟨K, fd, MM.spM (LW.Gb K) 1 MM.m_law_k31, KX, fun s v => b s [v] rfl, fun H a ns hl _ hS => ?_, fun base _ _ => LW.ok_law E D⟩
      obtain ⟨h', e⟩ := MM.law_ok ns hl
      exact MM.law_start hS e
