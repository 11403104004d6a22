import PyProof.Rows.All
import Wide.All
import OpenK.AllK
import Wide.FinOn
import HandS.ForMost
import HandS.Exc
import HandS.TryOnly
import HandS.ExcOwn
import HandS.WordsExc
import HandS.Defaults
import HandS.Flow
import HandS.Style
import HandS.StrMore
import HandS.FStr
import HandS.ExcIs
import HandS.TupAny
import KE.SortData
import KE.KDictKeyed
import HandS.Zip
import HandS.RevRange
import KE.KxIndex
import HandS.TupLen
import HandS.Text
import HandS.IsInst
import HandS.Deep
import HandS.WordsDict
import HandS.Conv
import HandS.Iter
import HandS.Dict
import HandS.More
import KE.KDictSum
import KE.KDictPairs
import KE.DataMinMax
import HandS.SortKw
import KE.DatumOrd
import HandS.CallLocal
import HandS.Strs
import PyProof.Rows.SetFrom
import HandS.TupSets
import PyProof.EnumMake
import PyProof.Draws
import KE.GoesMore
import KE.KStateDown
import HandS.Head0
import HandS.Head1
import HandS.Head2
import HandS.HeadEnd
import HandS.HeadHook1
import HandS.HeadHook2
import PySem.Challenge.RW_twinshelves_k18_quarrels_end
set_option Elab.async false
set_option linter.all false
set_option maxRecDepth 100000
set_option maxHeartbeats 0
namespace LW
open PySem L2
def top (i : Nat) : Stmt := PySem.Challenge.pw_twinshelves_k18_quarrels_end.main.body.getD i (.Pass ⟨0, 0, 0, 0⟩)
abbrev s0 : Stmt := inClass (top 21) 11
def d0 : He.DefD := ⟨("House", some "file"), "file", "House.file", defArgs s0, defBody s0, defScope s0, [], []⟩
abbrev s1 : Stmt := top 13
def d1 : He.DefD := ⟨("known_together", none), "known_together", "known_together", defArgs s1, defBody s1, defScope s1, [], []⟩
abbrev s2 : Stmt := top 11
def d2 : He.DefD := ⟨("is_within", none), "is_within", "is_within", defArgs s2, defBody s2, defScope s2, [], []⟩
abbrev s3 : Stmt := top 14
def d3 : He.DefD := ⟨("kept_of", none), "kept_of", "kept_of", defArgs s3, defBody s3, defScope s3, [], []⟩
abbrev s4 : Stmt := top 15
def d4 : He.DefD := ⟨("marked_together", none), "marked_together", "marked_together", defArgs s4, defBody s4, defScope s4, [], []⟩
abbrev s5 : Stmt := top 16
def d5 : He.DefD := ⟨("put_together", none), "put_together", "put_together", defArgs s5, defBody s5, defScope s5, [], []⟩
abbrev s6 : Stmt := inClass (top 21) 17
def d6 : He.DefD := ⟨("House", some "take"), "take", "House.take", defArgs s6, defBody s6, defScope s6, [], []⟩
abbrev s7 : Stmt := inClass (top 23) 2
def d7 : He.DefD := ⟨("Meeting", some "step"), "step", "Meeting.step", defArgs s7, defBody s7, defScope s7, [], []⟩
abbrev s8 : Stmt := inClass (top 23) 3
def d8 : He.DefD := ⟨("Meeting", some "rest"), "rest", "Meeting.rest", defArgs s8, defBody s8, defScope s8, [], []⟩
abbrev s9 : Stmt := top 17
def d9 : He.DefD := ⟨("is_gone", none), "is_gone", "is_gone", defArgs s9, defBody s9, defScope s9, [], []⟩
abbrev s10 : Stmt := inClass (top 21) 4
def d10 : He.DefD := ⟨("House", some "there"), "there", "House.there", defArgs s10, defBody s10, defScope s10, [], []⟩
abbrev s11 : Stmt := top 9
def d11 : He.DefD := ⟨("is_text", none), "is_text", "is_text", defArgs s11, defBody s11, defScope s11, [], []⟩
abbrev s12 : Stmt := inClass (top 21) 6
def d12 : He.DefD := ⟨("House", some "must_be_text"), "must_be_text", "House.must_be_text", defArgs s12, defBody s12, defScope s12, [], []⟩
abbrev s13 : Stmt := inClass (top 21) 3
def d13 : He.DefD := ⟨("House", some "next_mark"), "next_mark", "House.next_mark", defArgs s13, defBody s13, defScope s13, [], []⟩
abbrev s14 : Stmt := inClass (top 21) 8
def d14 : He.DefD := ⟨("House", some "write"), "write", "House.write", defArgs s14, defBody s14, defScope s14, [], []⟩
abbrev s15 : Stmt := top 8
def d15 : He.DefD := ⟨("is_name", none), "is_name", "is_name", defArgs s15, defBody s15, defScope s15, [], []⟩
abbrev s16 : Stmt := inClass (top 21) 5
def d16 : He.DefD := ⟨("House", some "must_be_name"), "must_be_name", "House.must_be_name", defArgs s16, defBody s16, defScope s16, [], []⟩
abbrev s17 : Stmt := inClass (top 21) 9
def d17 : He.DefD := ⟨("House", some "rename"), "rename", "House.rename", defArgs s17, defBody s17, defScope s17, [], []⟩
abbrev s18 : Stmt := top 31
def d18 : He.DefD := ⟨("_law_change", none), "_law_change", "_law_change", defArgs s18, defBody s18, defScope s18, [], []⟩
abbrev s19 : Stmt := top 26
def d19 : He.DefD := ⟨("_law_mix", none), "_law_mix", "_law_mix", defArgs s19, defBody s19, defScope s19, [], []⟩
abbrev s20 : Stmt := inClass (top 21) 10
def d20 : He.DefD := ⟨("House", some "drop"), "drop", "House.drop", defArgs s20, defBody s20, defScope s20, [], []⟩
abbrev s21 : Stmt := top 32
def d21 : He.DefD := ⟨("_law_last", none), "_law_last", "_law_last", defArgs s21, defBody s21, defScope s21, [], []⟩
abbrev s22 : Stmt := top 27
def d22 : He.DefD := ⟨("_law_perm", none), "_law_perm", "_law_perm", defArgs s22, defBody s22, defScope s22, [], []⟩
abbrev s23 : Stmt := inClass (top 21) 0
def d23 : He.DefD := ⟨("House", some "__init__"), "__init__", "House.__init__", defArgs s23, defBody s23, defScope s23, [], []⟩
abbrev s24 : Stmt := top 30
def d24 : He.DefD := ⟨("_law_same", none), "_law_same", "_law_same", defArgs s24, defBody s24, defScope s24, [], []⟩
abbrev s25 : Stmt := top 25
def d25 : He.DefD := ⟨("_law_cell", none), "_law_cell", "_law_cell", defArgs s25, defBody s25, defScope s25, [], []⟩
abbrev s26 : Stmt := top 29
def d26 : He.DefD := ⟨("_law_text", none), "_law_text", "_law_text", defArgs s26, defBody s26, defScope s26, [], []⟩
abbrev s27 : Stmt := top 28
def d27 : He.DefD := ⟨("_law_name", none), "_law_name", "_law_name", defArgs s27, defBody s27, defScope s27, [], []⟩
abbrev s28 : Stmt := inClass (top 21) 7
def d28 : He.DefD := ⟨("House", some "make"), "make", "House.make", defArgs s28, defBody s28, defScope s28, [], []⟩
abbrev s29 : Stmt := top 12
def d29 : He.DefD := ⟨("has_heard", none), "has_heard", "has_heard", defArgs s29, defBody s29, defScope s29, [], []⟩
abbrev s30 : Stmt := inClass (top 21) 19
def d30 : He.DefD := ⟨("House", some "news_for"), "news_for", "House.news_for", defArgs s30, defBody s30, defScope s30, [], []⟩
abbrev s31 : Stmt := inClass (top 21) 18
def d31 : He.DefD := ⟨("House", some "heard"), "heard", "House.heard", defArgs s31, defBody s31, defScope s31, [], []⟩
abbrev s32 : Stmt := inClass (top 23) 0
def d32 : He.DefD := ⟨("Meeting", some "__init__"), "__init__", "Meeting.__init__", defArgs s32, defBody s32, defScope s32, [], []⟩
abbrev s33 : Stmt := inClass (top 21) 14
def d33 : He.DefD := ⟨("House", some "text_of"), "text_of", "House.text_of", defArgs s33, defBody s33, defScope s33, [], []⟩
abbrev s34 : Stmt := inClass (top 21) 12
def d34 : He.DefD := ⟨("House", some "ids"), "ids", "House.ids", defArgs s34, defBody s34, defScope s34, [], []⟩
abbrev s35 : Stmt := top 18
def d35 : He.DefD := ⟨("name_of", none), "name_of", "name_of", defArgs s35, defBody s35, defScope s35, [], []⟩
abbrev s36 : Stmt := inClass (top 21) 16
def d36 : He.DefD := ⟨("House", some "shown"), "shown", "House.shown", defArgs s36, defBody s36, defScope s36, [], []⟩
abbrev s37 : Stmt := top 19
def d37 : He.DefD := ⟨("quarrels_of", none), "quarrels_of", "quarrels_of", defArgs s37, defBody s37, defScope s37, [], []⟩
abbrev s38 : Stmt := inClass (top 21) 15
def d38 : He.DefD := ⟨("House", some "quarrels"), "quarrels", "House.quarrels", defArgs s38, defBody s38, defScope s38, [], []⟩
abbrev s39 : Stmt := inClass (top 21) 13
def d39 : He.DefD := ⟨("House", some "gone"), "gone", "House.gone", defArgs s39, defBody s39, defScope s39, [], []⟩
abbrev s40 : Stmt := top 33
def d40 : He.DefD := ⟨("_law_is_told", none), "_law_is_told", "_law_is_told", defArgs s40, defBody s40, defScope s40, [], []⟩
abbrev s41 : Stmt := top 34
def d41 : He.DefD := ⟨("law", none), "law", "law", defArgs s41, defBody s41, defScope s41, [], []⟩
def fn : List He.DefD := [d0, d1, d2, d3, d4, d5, d6, d7, d8, d9, d10, d11, d12, d13, d14, d15, d16, d17, d18, d19, d20, d21, d22, d23, d24, d25, d26, d27, d28, d29, d30, d31, d32, d33, d34, d35, d36, d37, d38, d39, d40, d41]
def fa : List He.Fa := [.glo "known_together",
  .glo "is_within",
  .glo "kept_of",
  .glo "marked_together",
  .glo "put_together",
  .glo "is_gone",
  .glo "is_text",
  .glo "is_name",
  .glo "_law_change",
  .glo "_law_mix",
  .glo "_law_last",
  .glo "_law_perm",
  .glo "_law_same",
  .glo "_law_cell",
  .glo "_law_text",
  .glo "_law_name",
  .glo "has_heard",
  .glo "name_of",
  .glo "quarrels_of",
  .glo "_law_is_told",
  .glo "law",
  .free "len",
  .free "isinstance",
  .free "all",
  .free "any",
  .free "range",
  .free "sorted",
  .free "tuple",
  .free "dict",
  .free "set",
  .free "list",
  .free "str",
  .free "int",
  .free "bool",
  .free "max",
  .free "min",
  .free "zip",
  .str "LETTERS" "abcdefghijklmnopqrstuvwxyz",
  .glo "House",
  .cls "House",
  .mkr "House",
  .meth "House" "file",
  .meth "House" "take",
  .meth "House" "there",
  .meth "House" "must_be_text",
  .meth "House" "next_mark",
  .meth "House" "write",
  .meth "House" "must_be_name",
  .meth "House" "rename",
  .meth "House" "drop",
  .meth "House" "make",
  .meth "House" "news_for",
  .meth "House" "heard",
  .meth "House" "text_of",
  .meth "House" "ids",
  .meth "House" "shown",
  .meth "House" "quarrels",
  .meth "House" "gone",
  .noat "House" "own",
  .noat "House" "acts",
  .noat "House" "shelf",
  .noat "House" "told",
  .glo "Meeting",
  .cls "Meeting",
  .mkr "Meeting",
  .meth "Meeting" "step",
  .meth "Meeting" "rest",
  .noat "Meeting" "houses",
  .noat "Meeting" "left",
  .glo "NoFile",
  .exc "NoFile",
  .glo "NoName",
  .exc "NoName",
  .glo "NoWords",
  .exc "NoWords",
  .exm "NoFile" "NoFile" true,
  .exm "NoName" "NoFile" false,
  .exm "NoWords" "NoFile" false]
def loose0 : List PySem.Str := ["_wall", "__name__", "ShelfError", "NoFile", "NoName", "NoWords", "LETTERS", "is_name", "is_text", "is_within", "has_heard", "known_together", "kept_of", "marked_together", "put_together", "is_gone", "name_of", "quarrels_of", "House", "Meeting"]
def loose1 : List PySem.Str := ["_law_cell", "_law_mix", "_law_perm", "_law_name", "_law_text", "_law_same", "_law_change", "_law_last", "_law_is_told"]
def loose : List PySem.Str := loose0 ++ loose1
abbrev R : PySem.W.OpenRow := PySem.W.OpenLaw.row PySem.Challenge.rw_twinshelves_k18_quarrels_end
abbrev hk : PySem.W.Hook := He.hookD 5 fa fn
def ob (s : PySem.W.SharedT) : He.AlD := He.obsDG 5 fa fn (HandSHeadRun.getT s)
theorem ob_eq (s : PySem.W.SharedT) : ob s = hk.obs s.abs := He.obsDG_eq (HandSHeadRun.getT_eq s)
theorem run (w : World) : HandSHeadRun.RunEq R (PySem.W.view R.prog [34]) hk ob 20000 loose w := by
  intro os
  kernel_rfl
end LW
namespace MM
open PySem L2
/-- a value: data (a tuple, a frozen list), or a mutable object, or a def -/
inductive Val where
  | non | bl (b : Bool) | int (i : Int) | str (x : Str)
  | tup (xs : List Val) | lst (xs : List Val)
  | ref (n : Nat) | fn (n : Nat) | ty (n : String)
  | scr (ns : List Int)
  | ptup (xs : List Val)
instance : Inhabited Val := ⟨.non⟩
/-- a mutable object; lK, lT: a dict that is walked -/
inductive Ob where
  | lst (xs : List Val)
  | dK (kvs : List (Key × Val))
  | dT (kvs : List (List Key × Val))
  | ins (c : Nat) (vs : List Val)
  | lK (kvs : List (Key × Val))
  | lT (kvs : List (List Key × Val))
  | dN (ks : List ((Int × Int) × Int))
abbrev HM := List Ob
/-- where classes, exceptions and defs stand -/
structure Glob where
  cls : Nat → Option Addr
  flds : Nat → List Str
  exc : Nat → Option Addr
  fn : Nat → Option Addr
  K : PySem.W.Frag
/-- the mutable objects' addresses by number; hid: lists that are just being made -/
structure Ad where
  ix : List Addr
  hid : List Addr := []
  lk : List Addr := []
def Ad.out (r : Ad) (a : Addr) : Prop := a ∉ r.ix ∧ a ∉ r.hid
/-- the script's list, wherever it stands -/
def ScrV (K : PySem.W.Frag) (r : Ad) (H : Hp) (a : Addr) (ns : List Int) : Prop := (Rd H a (.lst (ns.map V.int)) ∧ r.out a) ∨ ∀ H' : Hp, SqL K H' a (ns.map V.int)
theorem ScrV.sq {K : PySem.W.Frag} {r : Ad} {H : Hp} {a : Addr} {ns : List Int} (h : ScrV K r H a ns) : SqL K H a (ns.map V.int) := by
  rcases h with ⟨h, _⟩ | h
  · exact .inl h
  · exact h H
def Ad.push (r : Ad) (a : Addr) : Ad := { r with ix := r.ix ++ [a] }
mutual
inductive VR (G : Glob) (r : Ad) (H : Hp) : Val → V → Prop
  | non : VR G r H .non .non
  | bl (b : Bool) : VR G r H (.bl b) (.bl b)
  | int (i : Int) : VR G r H (.int i) (.int i)
  | str (x : Str) : VR G r H (.str x) (.str x)
  | tup {a : Addr} {vs : List V} {xs : List Val} : H a = some (.tup vs) → r.out a → VRs G r H xs vs → VR G r H (.tup xs) (.ref a)
  | lst {a : Addr} {vs : List V} {xs : List Val} : H a = some (.lst vs) → r.out a → VRs G r H xs vs → VR G r H (.lst xs) (.ref a)
  | ref {n : Nat} {a : Addr} : r.ix[n]? = some a → VR G r H (.ref n) (.ref a)
  | fn {n : Nat} {a : Addr} : G.fn n = some a → VR G r H (.fn n) (.ref a)
  | ty (n : String) : VR G r H (.ty n) (.ty n)
  | scr {a : Addr} {ns : List Int} : ScrV G.K r H a ns → VR G r H (.scr ns) (.ref a)
  | ptup {a : Addr} {o : Obj} {vs : List V} {xs : List Val} : H a = some (.frz o (.tup vs)) → o.dict = none → r.out a → VRs G r H xs vs → VR G r H (.ptup xs) (.ref a)
inductive VRs (G : Glob) (r : Ad) (H : Hp) : List Val → List V → Prop
  | nil : VRs G r H [] []
  | cons {x : Val} {xs : List Val} {v : V} {vs : List V} : VR G r H x v → VRs G r H xs vs → VRs G r H (x :: xs) (v :: vs)
end
/-- values under keys -/
def KR {κ : Type} (G : Glob) (r : Ad) (H : Hp) : List (κ × Val) → List (κ × V) → Prop := Paired fun p q => p.1 = q.1 ∧ VR G r H p.2 q.2
/-- keys ((a, b), c), each with True under it: what stands at a, by the keys' and their marks' addresses -/
def key3 (k : (Int × Int) × Int) : NestedKey := .tup [.tup [.num k.1.1, .num k.1.2], .num k.2]
abbrev Ent3 := ((Int × Int) × Int) × Addr × Addr
def DN (a : Addr) (xs : List Ent3) (h : Heap) : Prop := (a == sysModules) = false ∧ xs.length ≤ sizeLine ∧ (xs.map (·.1)).Nodup ∧
  ∃ (w : World) (o : Obj) (es : Array DictEntry) (ep : Nat), h.get? a = some o ∧ o.ExactDict ∧ o.data = .dict es ep ∧ es.toList = xs.map fun x => (⟨(key3 x.1).hash w, .ref x.2.1, .bool true⟩ : DictEntry)
/-- the keys' tuples stand -/
def Ky3 (r : Ad) (H : Hp) (x : Ent3) : Prop := H x.2.2 = some (.tup [.int x.1.1.1, .int x.1.1.2]) ∧ r.out x.2.2 ∧ H x.2.1 = some (.tup [.ref x.2.2, .int x.1.2]) ∧ r.out x.2.1
theorem Ky3.ex {r r' : Ad} {H H' : Hp} {x : Ent3} (hk : ∀ (a : Addr) (u : HO), H a = some u → r.out a → H' a = some u ∧ r'.out a) (z : Ky3 r H x) : Ky3 r' H' x :=
  ⟨(hk _ _ z.1 z.2.1).1, (hk _ _ z.1 z.2.1).2, (hk _ _ z.2.2.1 z.2.2.2).1, (hk _ _ z.2.2.1 z.2.2.2).2⟩
inductive ObR (G : Glob) (r : Ad) (H : Hp) (a : Addr) : Ob → Prop
  | lst {xs : List Val} {vs : List V} : H a = some (.lst vs) → VRs G r H xs vs → ObR G r H a (.lst xs)
  | dK {kvs : List (Key × Val)} {kv : List (Key × V)} : H a = some (.dK kv) → KR G r H kvs kv → ObR G r H a (.dK kvs)
  | dT {kvs : List (List Key × Val)} {kv : List (List Key × V)} : H a = some (.dT kv) → KR G r H kvs kv → ObR G r H a (.dT kvs)
  | ins {c : Nat} {C dx : Addr} {vs : List Val} {fv : List (Str × V)} : H a = some (.ins C dx fv) → G.cls c = some C → fv.map (·.1) = (G.flds c).take fv.length → VRs G r H vs (fv.map (·.2)) → ObR G r H a (.ins c vs)
  | lK {o : Obj} {kvs : List (Key × Val)} {kv : List (Key × V)} : H a = some (.frz o (.dK kv)) → KR G r H kvs kv → ObR G r H a (.lK kvs)
  | lT {o : Obj} {kvs : List (List Key × Val)} {kv : List (List Key × V)} : H a = some (.frz o (.dT kv)) → KR G r H kvs kv → ObR G r H a (.lT kvs)
  | dN {ks : List ((Int × Int) × Int)} {xs : List Ent3} : H a = some (.ext (DN a xs)) → ks = xs.map (·.1) → (∀ x ∈ xs, Ky3 r H x) → ObR G r H a (.dN ks)
def isLk : Ob → Bool
  | .lK _ => true
  | .lT _ => true
  | _ => false
structure Rel (G : Glob) (r : Ad) (h : HM) (H : Hp) : Prop where
  nd : r.ix.Nodup
  len : r.ix.length = h.length
  hd : ∀ a ∈ r.hid, a ∉ r.ix ∧ ∃ vs, H a = some (.lst vs)
  ob : ∀ (n : Nat) (a : Addr) (o : Ob), r.ix[n]? = some a → h[n]? = some o → ObR G r H a o
  lk : ∀ a ∈ r.lk, a ∉ r.hid ∧ ∃ o u, H a = some (.frz o u)
  lo : ∀ (n : Nat) (a : Addr) (o : Ob), r.ix[n]? = some a → h[n]? = some o → isLk o = true → a ∈ r.lk
/-- what values lean on stays -/
structure Ex (r : Ad) (H : Hp) (r' : Ad) (H' : Hp) : Prop where
  pre : r.ix <+: r'.ix
  keep : ∀ (a : Addr) (u : HO), H a = some u → r.out a → H' a = some u ∧ r'.out a
/-- what stays: all that is not mutable -/
structure Ext (r : Ad) (H : Hp) (r' : Ad) (H' : Hp) : Prop extends Ex r H r' H' where
  hid : r'.hid = r.hid
  hk : ∀ a ∈ r.hid, H' a = H a
  lkk : r'.lk = r.lk
  lks : ∀ a ∈ r.lk, H' a = H a
abbrev Loc := List (Option Val)
def LR (G : Glob) (r : Ad) (H : Hp) (l : Loc) (s : St) : Prop := l.length = s.length ∧ ∀ (i : Nat) (v : Val), l[i]? = some (some v) → ∃ u, s[i]? = some (some u) ∧ VR G r H v u
section
variable {G : Glob} {r r' r2 : Ad} {H H' H2 : Hp} {h h' : HM}
theorem Ext.refl : Ext r H r H := ⟨⟨List.prefix_refl _, fun _ _ e n => ⟨e, n⟩⟩, rfl, fun _ _ => rfl, rfl, fun _ _ => rfl⟩
theorem Ex.trans (a : Ex r H r' H') (b : Ex r' H' r2 H2) : Ex r H r2 H2 := ⟨a.pre.trans b.pre, fun c u e n => let z := a.keep c u e n; b.keep c u z.1 z.2⟩
theorem Ext.trans (a : Ext r H r' H') (b : Ext r' H' r2 H2) : Ext r H r2 H2 := ⟨a.toEx.trans b.toEx, b.hid.trans a.hid, fun c m => (b.hk c (by rw [a.hid]; exact m)).trans (a.hk c m), b.lkk.trans a.lkk, fun c m => (b.lks c (by rw [a.lkk]; exact m)).trans (a.lks c m)⟩
theorem Ex.rd (e : Ex r H r' H') {a : Addr} {u : HO} (d : Rd H a u) (n : r.out a) : Rd H' a u ∧ r'.out a := by
  rcases d with d | ⟨o, d⟩
  · exact ⟨.inl (e.keep _ _ d n).1, (e.keep _ _ d n).2⟩
  · exact ⟨.inr ⟨o, (e.keep _ _ d n).1⟩, (e.keep _ _ d n).2⟩
theorem pre_get {r r' : List Addr} (p : r <+: r') {n : Nat} {a : Addr} (e : r[n]? = some a) : r'[n]? = some a := by
  obtain ⟨t, rfl⟩ := p
  have hn : n < r.length := (List.getElem?_eq_some_iff.mp e).1
  rw [List.getElem?_append_left hn]; exact e
mutual
theorem VR.ex (e : Ex r H r' H') : ∀ {x : Val} {v : V}, VR G r H x v → VR G r' H' x v
  | _, _, .non => .non
  | _, _, .bl b => .bl b
  | _, _, .int i => .int i
  | _, _, .str x => .str x
  | _, _, .tup d n q => .tup (e.keep _ _ d n).1 (e.keep _ _ d n).2 (VRs.ex e q)
  | _, _, .lst d n q => .lst (e.keep _ _ d n).1 (e.keep _ _ d n).2 (VRs.ex e q)
  | _, _, .ref q => .ref (pre_get e.pre q)
  | _, _, .fn q => .fn q
  | _, _, .ty n => .ty n
  | _, _, .ptup d z n q => .ptup (e.keep _ _ d n).1 z (e.keep _ _ d n).2 (VRs.ex e q)
  | _, _, .scr q => .scr (q.imp (fun z => e.rd z.1 z.2) fun z => z)
theorem VRs.ex (e : Ex r H r' H') : ∀ {xs : List Val} {vs : List V}, VRs G r H xs vs → VRs G r' H' xs vs
  | _, _, .nil => .nil
  | _, _, .cons q t => .cons (VR.ex e q) (VRs.ex e t)
end
theorem VR.ext (e : Ext r H r' H') {x : Val} {v : V} (q : VR G r H x v) : VR G r' H' x v := VR.ex e.toEx q
theorem VRs.ext (e : Ext r H r' H') {xs : List Val} {vs : List V} (q : VRs G r H xs vs) : VRs G r' H' xs vs := VRs.ex e.toEx q
theorem KR.ex {κ : Type} (e : Ex r H r' H') {x : List (κ × Val)} {y : List (κ × V)} (q : KR G r H x y) : KR G r' H' x y := Paired.mapP q fun _ _ z => ⟨z.1, z.2.ex e⟩
theorem LR.ex (e : Ex r H r' H') {l : Loc} {s : St} (q : LR G r H l s) : LR G r' H' l s := ⟨q.1, fun i v z => let ⟨u, a, b⟩ := q.2 i v z; ⟨u, a, b.ex e⟩⟩
theorem KR.ext {κ : Type} (e : Ext r H r' H') {x : List (κ × Val)} {y : List (κ × V)} (q : KR G r H x y) : KR G r' H' x y := Paired.mapP q fun _ _ z => ⟨z.1, z.2.ext e⟩
theorem LR.ext (e : Ext r H r' H') {l : Loc} {s : St} (q : LR G r H l s) : LR G r' H' l s := ⟨q.1, fun i v z => let ⟨u, a, b⟩ := q.2 i v z; ⟨u, a, b.ext e⟩⟩
theorem VRs.length {xs : List Val} {vs : List V} (q : VRs G r H xs vs) : xs.length = vs.length := by
  induction xs generalizing vs with
  | nil => cases q; rfl
  | cons x xs ih => cases q with | cons a b => simp [ih b]
theorem VRs.get {xs : List Val} {vs : List V} (q : VRs G r H xs vs) {i : Nat} {x : Val} (e : xs[i]? = some x) : ∃ v, vs[i]? = some v ∧ VR G r H x v := by
  induction xs generalizing vs i with
  | nil => simp at e
  | cons y ys ih =>
    cases q with
    | cons a b =>
      cases i with
      | zero => simp at e; subst e; exact ⟨_, rfl, a⟩
      | succ i => exact ih b (by simpa using e)
theorem VRs.get' {xs : List Val} {vs : List V} (q : VRs G r H xs vs) {i : Nat} {v : V} (e : vs[i]? = some v) : ∃ x, xs[i]? = some x ∧ VR G r H x v := by
  induction xs generalizing vs i with
  | nil => cases q; simp at e
  | cons y ys ih =>
    cases q with
    | cons a b =>
      cases i with
      | zero => simp at e; subst e; exact ⟨_, rfl, a⟩
      | succ i => exact ih b (by simpa using e)
theorem VRs.append {xs ys : List Val} {vs ws : List V} (q : VRs G r H xs vs) (t : VRs G r H ys ws) : VRs G r H (xs ++ ys) (vs ++ ws) := by
  induction xs generalizing vs with
  | nil => cases q; exact t
  | cons x xs ih => cases q with | cons a b => exact .cons a (ih b)
theorem VRs.take {xs : List Val} {vs : List V} (q : VRs G r H xs vs) (n : Nat) : VRs G r H (xs.take n) (vs.take n) := by
  induction xs generalizing vs n with
  | nil => cases q; simp; exact .nil
  | cons x xs ih =>
    cases q with
    | cons a b =>
      cases n with
      | zero => exact .nil
      | succ n => exact .cons a (ih b n)
theorem VRs.drop {xs : List Val} {vs : List V} (q : VRs G r H xs vs) (n : Nat) : VRs G r H (xs.drop n) (vs.drop n) := by
  induction xs generalizing vs n with
  | nil => cases q; simp; exact .nil
  | cons x xs ih =>
    cases q with
    | cons a b =>
      cases n with
      | zero => exact .cons a b
      | succ n => exact ih b n
theorem VRs.set {xs : List Val} {vs : List V} (q : VRs G r H xs vs) (n : Nat) {x : Val} {v : V} (z : VR G r H x v) : VRs G r H (xs.set n x) (vs.set n v) := by
  induction xs generalizing vs n with
  | nil => cases q; exact .nil
  | cons y ys ih =>
    cases q with
    | cons a b =>
      cases n with
      | zero => exact .cons z b
      | succ n => exact .cons a (ih b n)
theorem VRs.eraseIdx {xs : List Val} {vs : List V} (q : VRs G r H xs vs) (n : Nat) : VRs G r H (xs.eraseIdx n) (vs.eraseIdx n) := by
  induction xs generalizing vs n with
  | nil => cases q; exact .nil
  | cons y ys ih =>
    cases q with
    | cons a b =>
      cases n with
      | zero => exact b
      | succ n => exact .cons a (ih b n)
theorem Rel.at_ (q : Rel G r h H) {n : Nat} {a : Addr} (e : r.ix[n]? = some a) : ∃ o, h[n]? = some o ∧ ObR G r H a o := by
  have hn : n < h.length := by rw [← q.len]; exact (List.getElem?_eq_some_iff.mp e).1
  exact ⟨h[n], by simp [hn], q.ob n a _ e (by simp [hn])⟩
theorem Rel.adr (q : Rel G r h H) {n : Nat} {o : Ob} (e : h[n]? = some o) : ∃ a, r.ix[n]? = some a ∧ ObR G r H a o := by
  have hn : n < r.ix.length := by rw [q.len]; exact (List.getElem?_eq_some_iff.mp e).1
  exact ⟨r.ix[n], by simp [hn], q.ob n _ o (by simp [hn]) e⟩
theorem ObR.some {a : Addr} {o : Ob} (q : ObR G r H a o) : ∃ u, H a = some u := by
  cases q <;> exact ⟨_, by assumption⟩
theorem Rel.there (q : Rel G r h H) {a : Addr} (m : a ∈ r.ix) : ∃ u, H a = some u := by
  obtain ⟨n, hn, e⟩ := List.mem_iff_getElem.mp m
  obtain ⟨o, _, ob⟩ := q.at_ (n := n) (a := a) (by simp [hn, e])
  exact ob.some
theorem Rel.hid (q : Rel G r h H) (a : Addr) (m : a ∈ r.hid) : a ∉ r.ix ∧ H a ≠ none := ⟨(q.hd a m).1, fun e => by
  obtain ⟨vs, z⟩ := (q.hd a m).2
  rw [e] at z; cases z⟩
theorem Rel.new (q : Rel G r h H) {p : Addr} (e : H p = none) : r.out p := ⟨(fun m => by
  obtain ⟨u, z⟩ := q.there m
  rw [e] at z
  cases z), fun m => (q.hid p m).2 e⟩
theorem Rel.lk_there (q : Rel G r h H) {a : Addr} (m : a ∈ r.lk) : H a ≠ none := by
  obtain ⟨_, o, u, e⟩ := q.lk a m
  rw [e]; simp
theorem Rel.lk_upd (q : Rel G r h H) {p : Addr} {o : HO} (e : ∀ o u, H p ≠ some (.frz o u)) : ∀ a ∈ r.lk, a ∉ r.hid ∧ ∃ o' u, upd H p o a = some (.frz o' u) := fun a m => by
  obtain ⟨n, o', u, z⟩ := q.lk a m
  refine ⟨n, o', u, ?_⟩
  have hne : a ≠ p := fun x => e o' u (by rw [← x]; exact z)
  rw [upd_ne hne]
  exact z
theorem nofrz_none {p : Addr} (e : H p = none) : ∀ o u, H p ≠ some (.frz o u) := fun o u z => by rw [e] at z; cases z
theorem ext_new (q : Rel G r h H) {p : Addr} {o : HO} (e : H p = none) : Ext r H r (upd H p o) := ⟨⟨List.prefix_refl _, fun a u z n => ⟨by rw [upd_ne (ne_of_none z e)]; exact z, n⟩⟩, rfl, fun a m => upd_ne fun z => (q.hid a m).2 (z ▸ e), rfl, fun a m => upd_ne fun z => (q.lk_there m) (z ▸ e)⟩
theorem ObR.ex {a : Addr} {o : Ob} (q : ObR G r H a o) (e : Ex r H r' H') (k : H' a = H a) : ObR G r' H' a o := by
  cases q with
  | lst h1 h2 => exact .lst (k.trans h1) (h2.ex e)
  | dK h1 h2 => exact .dK (k.trans h1) (h2.ex e)
  | dT h1 h2 => exact .dT (k.trans h1) (h2.ex e)
  | ins h1 h2 h3 h4 => exact .ins (k.trans h1) h2 h3 (h4.ex e)
  | lK h1 h2 => exact .lK (k.trans h1) (h2.ex e)
  | lT h1 h2 => exact .lT (k.trans h1) (h2.ex e)
  | dN h1 h2 h3 => exact .dN (k.trans h1) h2 fun x hx => (h3 x hx).ex e.keep
theorem ObR.ext {a : Addr} {o : Ob} (q : ObR G r H a o) (e : Ext r H r' H') (k : H' a = H a) : ObR G r' H' a o := q.ex e.toEx k
/-- a new thing that is no mutable object -/
theorem Rel.laid (q : Rel G r h H) {p : Addr} {o : HO} (e : H p = none) : Rel G r h (upd H p o) := ⟨q.nd, q.len, fun a m => ⟨(q.hid a m).1, by
    have hne : a ≠ p := fun z => (q.hid a m).2 (by rw [z]; exact e)
    rw [upd_ne hne]; exact (q.hd a m).2⟩, fun n a u h1 h2 =>
  (q.ob n a u h1 h2).ext (ext_new q e) (by
    have m : a ∈ r.ix := List.mem_of_getElem? h1
    rw [upd_ne]
    exact fun z => (q.new e).1 (z ▸ m)), q.lk_upd (nofrz_none e), q.lo⟩
/-- a new mutable object -/
theorem ext_alloc (q : Rel G r h H) {p : Addr} {o : HO} (e : H p = none) : Ext r H (r.push p) (upd H p o) := ⟨⟨List.prefix_append _ _, fun a u z n => ⟨by rw [upd_ne (ne_of_none z e)]; exact z, by
  refine ⟨?_, n.2⟩
  simp only [Ad.push, List.mem_append, List.mem_singleton, not_or]
  exact ⟨n.1, ne_of_none z e⟩⟩⟩, rfl, fun a m => upd_ne fun z => (q.hid a m).2 (z ▸ e), rfl, fun a m => upd_ne fun z => (q.lk_there m) (z ▸ e)⟩
theorem Rel.alloc (q : Rel G r h H) {p : Addr} {o : HO} {u : Ob} (e : H p = none) (z : ObR G (r.push p) (upd H p o) p u) (hu : isLk u = false := by rfl) : Rel G (r.push p) (h ++ [u]) (upd H p o) := by
  refine ⟨?_, by simp [Ad.push, q.len], fun a m => ?_, fun n a w h1 h2 => ?_, q.lk_upd (nofrz_none e), fun n a w h1 h2 hw => ?_⟩
  · simp only [Ad.push]
    rw [List.nodup_append]
    refine ⟨q.nd, by simp, fun a ha b hb => ?_⟩
    simp at hb
    subst hb
    exact fun z => (q.new e).1 (z ▸ ha)
  · have hne : a ≠ p := fun z => (q.hid a m).2 (z ▸ e)
    refine ⟨?_, by rw [upd_ne hne]; exact (q.hd a m).2⟩
    simp only [Ad.push, List.mem_append, List.mem_singleton, not_or]
    exact ⟨(q.hid a m).1, hne⟩
  · have h1 : (r.ix ++ [p])[n]? = .some a := h1
    by_cases hn : n < r.ix.length
    · rw [List.getElem?_append_left hn] at h1
      rw [List.getElem?_append_left (by rw [← q.len]; exact hn)] at h2
      refine (q.ob n a w h1 h2).ext (ext_alloc q e) ?_
      have m : a ∈ r.ix := List.mem_of_getElem? h1
      rw [upd_ne]
      exact fun z => (q.new e).1 (z ▸ m)
    · have hn' : n = r.ix.length := by
        have := (List.getElem?_eq_some_iff.mp h1).1
        simp at this
        omega
      subst hn'
      rw [List.getElem?_append_right (Nat.le_refl _)] at h1
      rw [q.len, List.getElem?_append_right (Nat.le_refl _)] at h2
      simp at h1 h2
      subst h1 h2
      exact z
  · have h1 : (r.ix ++ [p])[n]? = .some a := h1
    by_cases hn : n < r.ix.length
    · rw [List.getElem?_append_left hn] at h1
      rw [List.getElem?_append_left (by rw [← q.len]; exact hn)] at h2
      exact q.lo n a w h1 h2 hw
    · have hn' : n = r.ix.length := by
        have := (List.getElem?_eq_some_iff.mp h1).1
        simp at this
        omega
      subst hn'
      rw [q.len, List.getElem?_append_right (Nat.le_refl _)] at h2
      simp at h2
      subst h2
      rw [hu] at hw; cases hw
theorem nodup_ixA {N : List Addr} (hN : N.Nodup) {i j : Nat} {x : Addr} (a : N[i]? = some x) (b : N[j]? = some x) : i = j := by
  obtain ⟨h1, e1⟩ := List.getElem?_eq_some_iff.mp a
  obtain ⟨h2, e2⟩ := List.getElem?_eq_some_iff.mp b
  exact (List.getElem_inj hN).mp (e1.trans e2.symm)
/-- a mutable object is written -/
theorem ext_write (q : Rel G r h H) {n : Nat} {a : Addr} {o : HO} (hn : r.ix[n]? = some a) (nf : ∀ o u, H a ≠ some (.frz o u)) : Ext r H r (upd H a o) := ⟨⟨List.prefix_refl _, fun b u z m => ⟨by
  have : b ≠ a := fun e => m.1 (e ▸ List.mem_of_getElem? hn)
  rw [upd_ne this]; exact z, m⟩⟩, rfl, fun b m => upd_ne fun e => (q.hid b m).1 (e ▸ List.mem_of_getElem? hn), rfl, fun b m => upd_ne fun e => (by
    obtain ⟨_, o', u, z⟩ := q.lk b m
    exact nf o' u (e ▸ z))⟩
theorem Rel.write (q : Rel G r h H) {n : Nat} {a : Addr} {o : HO} {u : Ob} (hn : r.ix[n]? = some a) (nf : ∀ o u, H a ≠ some (.frz o u)) (z : ObR G r (upd H a o) a u) (hu : isLk u = true → a ∈ r.lk := by intro z; cases z) : Rel G r (h.set n u) (upd H a o) := by
  refine ⟨q.nd, by simp [q.len], fun b m => ⟨(q.hid b m).1, by
    have hne : b ≠ a := fun e => (q.hid b m).1 (by rw [e]; exact List.mem_of_getElem? hn)
    rw [upd_ne hne]; exact (q.hd b m).2⟩, fun m b w h1 h2 => ?_, q.lk_upd nf, fun m b w h1 h2 hw => ?_⟩
  rotate_left
  · by_cases e : m = n
    · subst e
      rw [hn] at h1; cases h1
      have hl : m < h.length := by rw [← q.len]; exact (List.getElem?_eq_some_iff.mp hn).1
      rw [List.getElem?_set_self hl] at h2
      cases h2
      exact hu hw
    · rw [List.getElem?_set_ne (Ne.symm e)] at h2
      exact q.lo m b w h1 h2 hw
  by_cases e : m = n
  · subst e
    rw [hn] at h1; cases h1
    have hl : m < h.length := by rw [← q.len]; exact (List.getElem?_eq_some_iff.mp hn).1
    rw [List.getElem?_set_self hl] at h2
    cases h2
    exact z
  · rw [List.getElem?_set_ne (Ne.symm e)] at h2
    refine (q.ob m b w h1 h2).ext (ext_write q hn nf) ?_
    rw [upd_ne]
    intro z2
    subst z2
    exact e (nodup_ixA q.nd h1 hn)
def Ad.hide (r : Ad) (D : Addr) : Ad := { r with hid := D :: r.hid }
theorem ex_hide {D : Addr} {o : HO} (e : H D = none) : Ex r H (r.hide D) (upd H D o) := ⟨List.prefix_refl _, fun a u z n => by
  have hne := ne_of_none z e
  refine ⟨by rw [upd_ne hne]; exact z, n.1, ?_⟩
  simp only [Ad.hide, List.mem_cons, not_or]
  exact ⟨hne, n.2⟩⟩
theorem Rel.hide (q : Rel G r h H) {D : Addr} {ys : List V} (e : H D = none) : Rel G (r.hide D) h (upd H D (.lst ys)) := by
  refine ⟨q.nd, q.len, fun a m => ?_, fun n a u h1 h2 => (q.ob n a u h1 h2).ex (ex_hide e) ?_, fun a m => ?_, q.lo⟩
  · simp only [Ad.hide, List.mem_cons] at m
    by_cases ha : a = D
    · subst ha
      exact ⟨(q.new e).1, ys, upd_same⟩
    · have m' : a ∈ r.hid := m.resolve_left ha
      exact ⟨(q.hid a m').1, by rw [upd_ne ha]; exact (q.hd a m').2⟩
  · have m : a ∈ r.ix := List.mem_of_getElem? h1
    rw [upd_ne]
    exact fun z => (q.new e).1 (z ▸ m)
  · have hl := q.lk_upd (o := .lst ys) (nofrz_none e) a m
    refine ⟨fun z => ?_, hl.2⟩
    simp only [Ad.hide, List.mem_cons] at z
    rcases z with z | z
    · exact q.lk_there m (z ▸ e)
    · exact hl.1 z
/-- the hidden list grows -/
theorem ex_grow {D : Addr} {o : HO} (m : D ∈ r.hid) : Ex r H r (upd H D o) := ⟨List.prefix_refl _, fun a u z n => by
  have hne : a ≠ D := fun e => n.2 (e ▸ m)
  exact ⟨by rw [upd_ne hne]; exact z, n⟩⟩
theorem Rel.grow (q : Rel G r h H) {D : Addr} {ys : List V} (m : D ∈ r.hid) : Rel G r h (upd H D (.lst ys)) := by
  refine ⟨q.nd, q.len, fun a m' => ⟨(q.hid a m').1, ?_⟩, fun n a u h1 h2 => (q.ob n a u h1 h2).ex (ex_grow m) ?_, fun a m' => ?_, q.lo⟩
  · by_cases ha : a = D
    · subst ha; exact ⟨ys, upd_same⟩
    · rw [upd_ne ha]; exact (q.hd a m').2
  · have m2 : a ∈ r.ix := List.mem_of_getElem? h1
    rw [upd_ne]
    intro z
    subst z
    exact (q.hid _ m).1 m2
  · obtain ⟨n, o', u, z⟩ := q.lk a m'
    refine ⟨n, o', u, ?_⟩
    have hne : a ≠ D := fun x => n (by rw [x]; exact m)
    rw [upd_ne hne]
    exact z
def Ad.show_ (r : Ad) (hs : List Addr) : Ad := { r with hid := hs }
theorem ex_show {D : Addr} {hs : List Addr} (e : r.hid = D :: hs) : Ex r H (r.show_ hs) H := ⟨List.prefix_refl _, fun a u z n => ⟨z, n.1, fun m => n.2 (by rw [e]; exact List.mem_cons_of_mem _ m)⟩⟩
theorem Rel.show_ (q : Rel G r h H) {D : Addr} {hs : List Addr} (e : r.hid = D :: hs) : Rel G (r.show_ hs) h H :=
  ⟨q.nd, q.len, fun a m => q.hd a (by rw [e]; exact List.mem_cons_of_mem _ m), fun n a u h1 h2 => (q.ob n a u h1 h2).ex (ex_show e) rfl, fun a m => ⟨fun z => (q.lk a m).1 (by rw [e]; exact List.mem_cons_of_mem _ z), (q.lk a m).2⟩, q.lo⟩
/-- from ahead of the making to behind it -/
theorem ext_made {D : Addr} {o : HO} (q : Rel G r h H) (e : H D = none) (x : Ex (r.hide D) (upd H D o) r2 H2) (hh : r2.hid = D :: r.hid) (hk : ∀ a ∈ r.hid, H2 a = H a) (lkk : r2.lk = r.lk) (lks : ∀ a ∈ r.lk, H2 a = H a) : Ext r H (r2.show_ r.hid) H2 :=
  ⟨((ex_hide e).trans x).trans (ex_show hh), rfl, hk, lkk, lks⟩
end
end MM
namespace MM
open PySem L2
inductive Res (α : Type) where
  | ok (a : α) (h : HM) | exc (c : Nat) (h : HM) | bad
inductive SRes where
  | nx (l : Loc) (h : HM) | rt (v : Val) (h : HM) | exc (c : Nat) (l : Loc) (h : HM) | bad
def Res.bind {α β : Type} (r : Res α) (k : α → HM → Res β) : Res β := match r with
  | .ok a h => k a h | .exc c h => .exc c h | .bad => .bad
@[simp] theorem Res.bind_ok {α β : Type} (a : α) (h : HM) (k : α → HM → Res β) : (Res.ok a h).bind k = k a h := (rfl)
@[simp] theorem Res.bind_exc {α β : Type} (c : Nat) (h : HM) (k : α → HM → Res β) : (Res.exc c h : Res α).bind k = .exc c h := (rfl)
@[simp] theorem Res.bind_bad {α β : Type} (k : α → HM → Res β) : (Res.bad : Res α).bind k = .bad := (rfl)
abbrev EM := Loc → HM → Res Val
abbrev TM := Loc → HM → Res Bool
abbrev AM := Loc → HM → Res (List Val)
abbrev SM := Loc → HM → SRes
abbrev FM := List Val → HM → Res Val
/-- an expression's result, as a statement goes on with it -/
def Res.thn (r : Res α) (l : Loc) (k : α → HM → SRes) : SRes := match r with
  | .ok a h => k a h | .exc c h => .exc c l h | .bad => .bad
@[simp] theorem Res.thn_ok {α : Type} (a : α) (h : HM) (l : Loc) (k : α → HM → SRes) : (Res.ok a h).thn l k = k a h := (rfl)
@[simp] theorem Res.thn_exc {α : Type} (c : Nat) (h : HM) (l : Loc) (k : α → HM → SRes) : (Res.exc c h : Res α).thn l k = .exc c l h := (rfl)
@[simp] theorem Res.thn_bad {α : Type} (l : Loc) (k : α → HM → SRes) : (Res.bad : Res α).thn l k = .bad := (rfl)
section
variable (G : Glob) (W : WX) (r : Ad) (H : Hp) (s : St)
def Post {α β : Type} (R : Ad → Hp → α → β → Prop) (Q : β → Hp → Prop) : Res α → Prop
  | .ok a h' => ∀ r' H' b, Ext r H r' H' → Rel G r' h' H' → R r' H' a b → Q b H'
  | .exc c h' => ∀ r' H' C, Ext r H r' H' → Rel G r' h' H' → G.exc c = some C → W (.ref C) none s H'
  | .bad => False
def PostS (D : Ends) : SRes → Prop
  | .nx l h' => ∀ r' H' s', Ext r H r' H' → Rel G r' h' H' → LR G r' H' l s' → D.nx s' H'
  | .rt v h' => ∀ r' H' u, Ext r H r' H' → Rel G r' h' H' → VR G r' H' v u → D.rt u H'
  | .exc c l h' => ∀ r' H' s' C, Ext r H r' H' → Rel G r' h' H' → LR G r' H' l s' → G.exc c = some C → W (.ref C) none s' H'
  | .bad => False
end
def REq {α : Type} : Ad → Hp → α → α → Prop := fun _ _ a b => b = a
section
variable (G : Glob) (W : WX)
def tE (m : EM) : TE := fun s H Q => ∃ r h l, Rel G r h H ∧ LR G r H l s ∧ Post G W r H s (VR G) Q (m l h)
def tT (m : TM) : TT := fun s H Q => ∃ r h l, Rel G r h H ∧ LR G r H l s ∧ Post G W r H s REq Q (m l h)
def tA (m : AM) : TA := fun s H Q => ∃ r h l, Rel G r h H ∧ LR G r H l s ∧ Post G W r H s (VRs G) Q (m l h)
def tS (m : SM) : TS := fun D s H => ∃ r h l, Rel G r h H ∧ LR G r H l s ∧ PostS G W r H D (m l h)
end
section
variable (X : Cx) (G : Glob) (W : WX)
abbrev ME (e : Expr) (m : EM) : Prop := PE X e (tE G W m)
abbrev MT (e : Expr) (m : TM) : Prop := PT X e (tT G W m)
abbrev MW (e : Expr) (m : TM) : Prop := PW X e (tT G W m)
abbrev MA (es : List Expr) (m : AM) : Prop := PA X es (tA G W m)
abbrev MS (st : Stmt) (m : SM) : Prop := PS X st (tS G W m)
abbrev MSs (st : List Stmt) (m : SM) : Prop := PSs X st (tS G W m)
end
section
variable {X : Cx} {G : Glob} {W : WX} {r r1 : Ad} {H H1 : Hp} {h : HM} {l : Loc} {s : St}
theorem Post.shift {α β : Type} {R : Ad → Hp → α → β → Prop} {Q : β → Hp → Prop} {x : Res α} (e : Ext r H r1 H1) (p : Post G W r H s R Q x) : Post G W r1 H1 s R Q x := by
  cases x with
  | ok a h' => exact fun r' H' b e' => p r' H' b (e.trans e')
  | exc c h' => exact fun r' H' C e' => p r' H' C (e.trans e')
  | bad => exact p
theorem PostS.shift {D : Ends} {x : SRes} (e : Ext r H r1 H1) (p : PostS G W r H D x) : PostS G W r1 H1 D x := by
  cases x with
  | nx l h' => exact fun r' H' s' e' => p r' H' s' (e.trans e')
  | rt v h' => exact fun r' H' b e' => p r' H' b (e.trans e')
  | exc c l h' => exact fun r' H' s' C e' => p r' H' s' C (e.trans e')
  | bad => exact p
/-- what is known between two parts -/
def Mid (G : Glob) (W : WX) (r : Ad) (H : Hp) {α β : Type} (R : Ad → Hp → α → β → Prop) (P : Ad → Hp → α → HM → Prop) : β → Hp → Prop :=
  fun b H1 => ∃ r1 h1 a, Ext r H r1 H1 ∧ Rel G r1 h1 H1 ∧ R r1 H1 a b ∧ P r1 H1 a h1
theorem Post.bind {α β γ δ : Type} {R1 : Ad → Hp → α → β → Prop} {R2 : Ad → Hp → γ → δ → Prop} {Q : δ → Hp → Prop} {x : Res α} {k : α → HM → Res γ}
    (p : Post G W r H s R2 Q (x.bind k)) : Post G W r H s R1 (Mid G W r H R1 fun r1 H1 a h1 => Post G W r1 H1 s R2 Q (k a h1)) x := by
  cases x with
  | ok a h' => exact fun r' H' b e q z => ⟨r', h', a, e, q, z, Post.shift e p⟩
  | exc c h' => exact p
  | bad => exact p
theorem Post.thn {α β : Type} {R1 : Ad → Hp → α → β → Prop} {D : Ends} {x : Res α} {k : α → HM → SRes} (hl : LR G r H l s)
    (p : PostS G W r H D (x.thn l k)) : Post G W r H s R1 (Mid G W r H R1 fun r1 H1 a h1 => PostS G W r1 H1 D (k a h1)) x := by
  cases x with
  | ok a h' => exact fun r' H' b e q z => ⟨r', h', a, e, q, z, PostS.shift e p⟩
  | exc c h' => exact fun r' H' C e q z => p r' H' s C e q (hl.ext e) z
  | bad => exact p
theorem Post.imp {α β : Type} {R : Ad → Hp → α → β → Prop} {Q Q' : β → Hp → Prop} {x : Res α} (p : Post G W r H s R Q x) (i : ∀ b H', Q b H' → Q' b H') : Post G W r H s R Q' x := by
  cases x with
  | ok a h' => exact fun r' H' b e q z => i _ _ (p r' H' b e q z)
  | exc c h' => exact p
  | bad => exact p
/-- a value as it stands -/
theorem Post.here {α β : Type} {R : Ad → Hp → α → β → Prop} {Q : β → Hp → Prop} {a : α} {b : β} (q : Rel G r h H) (z : R r H a b) (p : Post G W r H s R Q (.ok a h)) : Q b H := p r H b Ext.refl q z
def eVar (i : Nat) : EM := fun l h => match l[i]? with
  | some (some v) => .ok v h
  | _ => .bad
def eC (v : Val) : EM := fun _ h => .ok v h
theorem me_of {e : Expr} {t : TE} {m : EM} (he : PE X e t) (hi : ∀ r h l s H Q, Rel G r h H → LR G r H l s → Post G W r H s (VR G) Q (m l h) → t s H Q) : ME X G W e m :=
  ⟨fun pins s σ H Q I ⟨r, h, l, q, hl, p⟩ => he.run pins s σ H Q I (hi r h l σ H Q q hl p)⟩
theorem me_var {i : Nat} {x : Str} {pos : Pos} (hN : X.N[i]? = some x := by rfl) (hv : Vis X.env.scope x := by first | exact Or.inl rfl | exact Or.inr (Or.inl rfl) | exact Or.inr (Or.inr rfl)) (hd : (x == ("__debug__" : Str)) = false := by decide)
    (hcd : (x == ("__classdict__" : Str)) = false := by decide) : ME X G W (.Name x pos) (eVar i) := me_of (pe_var hN hv hd hcd) fun r h l s H Q q hl p => by
  unfold eVar at p
  split at p
  · rename_i v e
    obtain ⟨u, a, b⟩ := hl.2 i v e
    exact ⟨u, a, Post.here q b p⟩
  · exact p.elim
theorem me_int {i j pos} : ME X G W (.Constant (.int i) j pos) (eC (.int i)) := me_of pe_int fun r h l s H Q q hl p => Post.here q (.int i) p
theorem me_bl {i j pos} : ME X G W (.Constant (.bool i) j pos) (eC (.bl i)) := me_of pe_bl fun r h l s H Q q hl p => Post.here q (.bl i) p
theorem me_non {j pos} : ME X G W (.Constant .none j pos) (eC .non) := me_of pe_non fun r h l s H Q q hl p => Post.here q .non p
theorem me_str {x j pos} : ME X G W (.Constant (.str x) j pos) (eC (.str x)) := me_of pe_str fun r h l s H Q q hl p => Post.here q (.str x) p
/-- a text of the module -/
theorem me_gstr {x z : Str} {t : Tok} {pos : Pos} (hg : Gl X x) (hm : X.mg x = some (.str z t)) (hd : (x == ("__debug__" : Str)) = false := by decide) : ME X G W (.Name x pos) (eC (.str z)) :=
  me_of (pe_glob (v := .str z) hg hm ⟨t, rfl⟩ hd) fun r h l s H Q q hl p => Post.here q (.str z) p
/-- an operation on two values -/
abbrev VOp := Val → Val → HM → Res Val
def OpM (X : Cx) (G : Glob) (f : Value → Value → Sem Value) (g : VOp) : Prop :=
  ∀ (W : WX) (pins : List (Addr × Obj)) (s : Shared) (σ : St) (H : Hp) (r : Ad) (h : HM) (a b : Val) (x y : V) (v u : Value) (Q : VK), Inv X pins σ H s → Rel G r h H → VR G r H a x → VR G r H b y → RelV x v → RelV y u →
    Post G W r H σ (VR G) Q (g a b h) → wpAny (model X.prog X.w) X.A (f v u) (EP X pins σ Q) X.xe s
def e2 (g : VOp) (a b : EM) : EM := fun l h => (a l h).bind fun x h1 => (b l h1).bind fun y h2 => g x y h2
theorem OpM.of {f : Value → Value → Sem Value} {t : R2} {g : VOp} (o : OpR X f t) (i : ∀ W r h H s a b x y Q, Rel G r h H → VR G r H a x → VR G r H b y → Post G W r H s (VR G) Q (g a b h) → t x y H Q) : OpM X G f g :=
  fun W pins s σ H r h a b x y v u Q I q za zb rx ry p => o pins s σ H x y v u Q I rx ry (i W r h H σ a b x y Q q za zb p)
variable {a b c : Expr} {ma mb mc : EM} {pos : Pos}
/-- what stands behind both parts -/
theorem both (ha : ME X G W a ma) (hb : ME X G W b mb) {pins : List (Addr × Obj)} {s : Shared} {σ : St} {H : Hp} {r : Ad} {h : HM} {l : Loc} {γ δ : Type} {R2 : Ad → Hp → γ → δ → Prop} {Q : δ → Hp → Prop} {k : Val → Val → HM → Res γ}
    (I : Inv X pins σ H s) (q : Rel G r h H) (hl : LR G r H l σ) (p : Post G W r H σ R2 Q ((ma l h).bind fun x h1 => (mb l h1).bind fun y h2 => k x y h2))
    {α : Type} {QQ : α → Shared → Prop} {f : Value → Value → Sem α}
    (hf : ∀ v u s2 x y H2 r2 h2 va vb, Inv X pins σ H2 s2 → Ext r H r2 H2 → Rel G r2 h2 H2 → VR G r2 H2 va x → VR G r2 H2 vb y → RelV x v → RelV y u → Post G W r2 H2 σ R2 Q (k va vb h2) → wpAny (model X.prog X.w) X.A (f v u) QQ X.xe s2) :
    wpAny (model X.prog X.w) X.A (eval a X.env) (fun v s₁ => wpAny (model X.prog X.w) X.A (eval b X.env) (fun u s₂ => wpAny (model X.prog X.w) X.A (f v u) QQ X.xe s₂) X.xe s₁) X.xe s := by
  refine thn (ha.run pins s σ H _ I ⟨r, h, l, q, hl, Post.bind p⟩) fun v s1 ⟨x, H1, I1, r1', ⟨r1, h1, va, e1, q1, z1, p1⟩⟩ => ?_
  refine thn (hb.run pins s1 σ H1 _ I1 ⟨r1, h1, l, q1, hl.ext e1, Post.bind p1⟩) fun u s2 ⟨y, H2, I2, r2', ⟨r2, h2, vb, e2, q2, z2, p2⟩⟩ => ?_
  exact hf v u s2 x y H2 r2 h2 va vb I2 (e1.trans e2) q2 (z1.ext e2) z2 r1' r2' p2
theorem me_op {op : Operator} {g : VOp} (o : OpM X G (binaryOp op) g) (ha : ME X G W a ma) (hb : ME X G W b mb) : ME X G W (.BinOp a op b pos) (e2 g ma mb) :=
  ⟨fun pins s σ H Q I ⟨r, h, l, q, hl, p⟩ => wpAny_BinOp (both ha hb I q hl p fun v u s2 x y H2 r2 h2 va vb I2 e q2 za zb rx ry p2 => o W pins s2 σ H2 r2 h2 va vb x y v u Q I2 q2 za zb rx ry p2)⟩
theorem me_cmp {op : CmpOp} {g : VOp} (o : OpM X G (compareOp op) g) (ha : ME X G W a ma) (hb : ME X G W b mb) (hm : behindInMarks op b = false) : ME X G W (.Compare a [op] [b] pos) (e2 g ma mb) :=
  ⟨fun pins s σ H Q I ⟨r, h, l, q, hl, p⟩ => wpAny_Compare1 (both ha hb I q hl p fun v u s2 x y H2 r2 h2 va vb I2 e q2 za zb rx ry p2 => o W pins s2 σ H2 r2 h2 va vb x y v u Q I2 q2 za zb rx ry p2) hm⟩
/-- a value that must be a truth -/
def toB (v : Val) (h : HM) : Res Bool := match v with
  | .bl b => .ok b h
  | _ => .bad
def tOf (m : EM) : TM := fun l h => (m l h).bind toB
theorem post_toB {Q : Bool → Hp → Prop} {v : Val} {x : V} (q : Rel G r h H) (z : VR G r H v x) (p : Post G W r H s REq Q (toB v h)) : ∃ k, x = .bl k ∧ Q k H := by
  cases z with
  | bl k => exact ⟨k, rfl, Post.here (R := REq) q rfl p⟩
  | _ => exact p.elim
/-- a comparison as a test -/
theorem mt_cmp {op : CmpOp} {g : VOp} (o : OpM X G (compareOp op) g) (ha : ME X G W a ma) (hb : ME X G W b mb) (hm : behindInMarks op b = false) : MT X G W (.Compare a [op] [b] pos) (tOf (e2 g ma mb)) := by
  refine ⟨fun pins s σ H Q I ⟨r, h, l, q, hl, p⟩ => ?_⟩
  have p' : Post G W r H σ REq Q ((ma l h).bind fun x h1 => (mb l h1).bind fun y h2 => (g x y h2).bind toB) := by
    unfold tOf e2 at p
    revert p
    cases ma l h with
    | ok x h1 => intro p; simp only [Res.bind_ok] at p ⊢; revert p; cases mb l h1 <;> exact fun p => p
    | exc c h1 => exact fun p => p
    | bad => exact fun p => p
  refine wpAny_isTrue_Compare1 (both ha hb I q hl p' fun v u s2 x y H2 r2 h2 va vb I2 e q2 za zb rx ry p2 => thn (o W pins s2 σ H2 r2 h2 va vb x y v u _ I2 q2 za zb rx ry (Post.bind p2)) fun c s3 ⟨z, H3, I3, r3, ⟨r4, h4, w4, e4, q4, z4, p4⟩⟩ => ?_) hm
  obtain ⟨k, rfl, qq⟩ := post_toB q4 z4 p4
  cases r3
  exact wpAny_truthy_bool ⟨H3, I3, qq⟩
/-- a value's truth -/
def truV (v : Val) (h : HM) : Res Bool := match v with
  | .non => .ok false h
  | .bl b => .ok b h
  | .int i => .ok (i != 0) h
  | .str x => if x.length ≤ sizeLine then .ok ((x.length : Int) != 0) h else .bad
  | .tup xs => .ok (!xs.isEmpty) h
  | .ptup xs => .ok (!xs.isEmpty) h
  | .lst xs => .ok (!xs.isEmpty) h
  | .ref n => match h[n]? with
    | some (.lst xs) => .ok (!xs.isEmpty) h
    | some (.dK kvs) => .ok (!kvs.isEmpty) h
    | _ => .bad
  | _ => .bad
def tTru (m : EM) : TM := fun l h => (m l h).bind truV
theorem VRs.isEmpty {xs : List Val} {vs : List V} (q : VRs G r H xs vs) : vs.isEmpty = xs.isEmpty := by cases q <;> rfl
theorem post_tru {K : PySem.W.Frag} {Q : Bool → Hp → Prop} {v : Val} {x : V} (q : Rel G r h H) (z : VR G r H v x) (p : Post G W r H s REq Q (truV v h)) : ∃ k, TruV K x H k ∧ Q k H := by
  cases z with
  | non => exact ⟨_, rfl, Post.here (R := REq) q rfl p⟩
  | bl k => exact ⟨_, rfl, Post.here (R := REq) q rfl p⟩
  | int i => exact ⟨_, rfl, Post.here (R := REq) q rfl p⟩
  | str x =>
    unfold truV at p
    simp only at p
    split at p
    · rename_i hz; exact ⟨_, ⟨hz, rfl⟩, Post.here (R := REq) q rfl p⟩
    · exact p.elim
  | tup d n t => exact ⟨_, .inr (.inl ⟨_, .inl (.inl d), rfl⟩), by rw [t.isEmpty]; exact Post.here (R := REq) q rfl p⟩
  | ptup d dn n t => exact ⟨_, .inr (.inl ⟨_, .inl (.inr ⟨_, d⟩), rfl⟩), by rw [t.isEmpty]; exact Post.here (R := REq) q rfl p⟩
  | lst d n t => exact ⟨_, .inl ⟨_, .inl (.inl d), rfl⟩, by rw [t.isEmpty]; exact Post.here (R := REq) q rfl p⟩
  | ref e =>
    obtain ⟨o, ho, ob⟩ := q.at_ e
    unfold truV at p
    simp only [ho] at p
    cases ob with
    | lst h1 h2 => exact ⟨_, .inl ⟨_, .inl (.inl h1), rfl⟩, by rw [h2.isEmpty]; exact Post.here (R := REq) q rfl p⟩
    | dK h1 h2 =>
      refine ⟨_, .inr (.inr ⟨_, h1, rfl⟩), ?_⟩
      have : ∀ {A : List (Key × Val)} {B : List (Key × V)}, KR G r H A B → B.isEmpty = A.isEmpty := fun z => by cases z <;> rfl
      rw [this h2]
      exact Post.here (R := REq) q rfl p
    | _ => exact p.elim
  | _ => exact p.elim
theorem mt_tru (he : ME X G W a ma) (hw : ∀ whole, isTrue a X.env whole = (do let v ← whole; standAt a.pos; holding [v] (truthy v)) := by intro _; rfl) : MT X G W a (tTru ma) := by
  refine ⟨fun pins s σ H Q I ⟨r, h, l, q, hl, p⟩ => ?_⟩
  exact PyProof.Rows.isTrue_plain (thn (he.run pins s σ H _ I ⟨r, h, l, q, hl, Post.bind p⟩) fun v s1 ⟨x, H1, I1, r1, ⟨r4, h4, w4, e4, q4, z4, p4⟩⟩ => tru_ok pins s1 σ H1 x v Q I1 r1 (post_tru q4 z4 p4)) (hw _)
def tAndM (a b : TM) : TM := fun l h => (a l h).bind fun c h1 => if c = true then b l h1 else .ok false h1
def tOrM (a b : TM) : TM := fun l h => (a l h).bind fun c h1 => if c = true then .ok true h1 else b l h1
def tNotM (a : TM) : TM := fun l h => (a l h).bind fun c h1 => .ok (!c) h1
variable {ta tb : TM} {rest : List Expr}
theorem mw_and1 (ha : MT X G W a ta) : MW X G W (.BoolOp .And [a] pos) ta := pw_and1 ha
theorem mw_or1 (ha : MT X G W a ta) : MW X G W (.BoolOp .Or [a] pos) ta := pw_or1 ha
theorem mw_and (ha : MT X G W a ta) (hb : MW X G W (.BoolOp .And (b :: rest) pos) tb) : MW X G W (.BoolOp .And (a :: b :: rest) pos) (tAndM ta tb) := by
  refine ⟨fun wh pins s σ H Q I ⟨r, h, l, q, hl, p⟩ => (pw_and ha hb).run wh pins s σ H Q I ⟨r, h, l, q, hl, (Post.bind p).imp fun c H1 ⟨r1, h1, w1, e1, q1, z1, p1⟩ => ?_⟩⟩
  cases z1
  cases c with
  | true => exact ⟨r1, h1, l, q1, hl.ext e1, p1⟩
  | false => exact Post.here (R := REq) q1 rfl p1
theorem mw_or (ha : MT X G W a ta) (hb : MW X G W (.BoolOp .Or (b :: rest) pos) tb) : MW X G W (.BoolOp .Or (a :: b :: rest) pos) (tOrM ta tb) := by
  refine ⟨fun wh pins s σ H Q I ⟨r, h, l, q, hl, p⟩ => (pw_or ha hb).run wh pins s σ H Q I ⟨r, h, l, q, hl, (Post.bind p).imp fun c H1 ⟨r1, h1, w1, e1, q1, z1, p1⟩ => ?_⟩⟩
  cases z1
  cases c with
  | true => exact Post.here (R := REq) q1 rfl p1
  | false => exact ⟨r1, h1, l, q1, hl.ext e1, p1⟩
theorem MW.mt (h : MW X G W a ta) : MT X G W a ta := PW.pt h
theorem mt_not (ha : MT X G W a ta) : MT X G W (.UnaryOp .Not a pos) (tNotM ta) := by
  refine ⟨fun pins s σ H Q I ⟨r, h, l, q, hl, p⟩ => (pt_not ha).run pins s σ H Q I ⟨r, h, l, q, hl, (Post.bind p).imp fun c H1 ⟨r1, h1, w1, e1, q1, z1, p1⟩ => ?_⟩⟩
  cases z1
  exact Post.here (R := REq) q1 rfl p1
/-- as values: every part but the last one a truth -/
def eAndM (a b : EM) : EM := fun l h => (a l h).bind fun x h1 => (toB x h1).bind fun c h2 => if c = true then b l h2 else .ok (.bl false) h2
def eOrM (a b : EM) : EM := fun l h => (a l h).bind fun x h1 => (toB x h1).bind fun c h2 => if c = true then .ok (.bl true) h2 else b l h2
/-- not x as a value, by truth -/
def eNotM (a : EM) : EM := fun l h => (a l h).bind fun x h1 => (truV x h1).bind fun c h2 => .ok (.bl (!c)) h2
theorem me_one {op} (ha : ME X G W a ma) : ME X G W (.BoolOp op [a] pos) ma := pe_one ha
theorem me_and (ha : ME X G W a ma) (hb : ME X G W (.BoolOp .And (b :: rest) pos) mb) : ME X G W (.BoolOp .And (a :: b :: rest) pos) (eAndM ma mb) := by
  refine ⟨fun pins s σ H Q I ⟨r, h, l, q, hl, p⟩ => (pe_and ha hb).run pins s σ H Q I ⟨r, h, l, q, hl, (Post.bind p).imp fun x H1 ⟨r1, h1, w1, e1, q1, z1, p1⟩ => ?_⟩⟩
  cases z1 with
  | bl c =>
    refine ⟨c, rfl, ?_⟩
    simp only [toB, Res.bind_ok] at p1
    cases c with
    | true => exact ⟨r1, h1, l, q1, hl.ext e1, p1⟩
    | false => exact Post.here q1 (.bl _) p1
  | _ => exact p1.elim
def eIfM (t : TM) (a b : EM) : EM := fun l h => (t l h).bind fun c h1 => if c = true then a l h1 else b l h1
def aNil : AM := fun _ h => .ok [] h
def aCons (a : EM) (t : AM) : AM := fun l h => (a l h).bind fun x h1 => (t l h1).bind fun xs h2 => .ok (x :: xs) h2
theorem ma_nil : MA X G W [] aNil := ⟨fun pos pins s σ H Q I ⟨r, h, l, q, hl, p⟩ => pa_nil.run pos pins s σ H Q I (Post.here q .nil p)⟩
variable {es : List Expr} {mt : AM}
theorem ma_cons (ha : ME X G W a ma) (hr : MA X G W es mt) (hs : starEach (a :: es) X.env = (false, eval a X.env) :: starEach es X.env := by rfl) : MA X G W (a :: es) (aCons ma mt) := by
  refine ⟨fun pos pins s σ H Q I ⟨r, h, l, q, hl, p⟩ => (pa_cons ha hr hs).run pos pins s σ H Q I ⟨r, h, l, q, hl, (Post.bind p).imp fun x H1 ⟨r1, h1, w1, e1, q1, z1, p1⟩ => ?_⟩⟩
  refine ⟨r1, h1, l, q1, hl.ext e1, (Post.bind p1).imp fun xs H2 ⟨r2, h2, w2, e2, q2, z2, p2⟩ => ?_⟩
  exact Post.here q2 (.cons (z1.ext e2) z2) p2
def mkTup (xs : List Val) (h : HM) : Res Val := if xs.length ≤ sizeLine then .ok (.tup xs) h else .bad
def mkLst (xs : List Val) (h : HM) : Res Val := if xs.length ≤ sizeLine then .ok (.lst xs) h else .bad
/-- a list that will be changed -/
def mkRef (xs : List Val) (h : HM) : Res Val := if xs.length ≤ sizeLine then .ok (.ref h.length) (h ++ [.lst xs]) else .bad
theorem post_tup {Q : VK} {xs : List Val} {vs : List V} (q : Rel G r h H) (z : VRs G r H xs vs) (p : Post G W r H s (VR G) Q (mkTup xs h)) : vs.length ≤ sizeLine ∧ ∀ a, H a = none → Q (.ref a) (upd H a (.tup vs)) := by
  unfold mkTup at p
  split at p
  · rename_i hz
    refine ⟨by rw [← z.length]; exact hz, fun a n => ?_⟩
    exact p r _ _ (ext_new q n) (q.laid n) (.tup upd_same (q.new n) (z.ext (ext_new q n)))
  · exact p.elim
theorem get_last {r : Ad} {a : Addr} : (r.push a).ix[r.ix.length]? = some a := by simp [Ad.push]
theorem post_ref {Q : VK} {xs : List Val} {vs : List V} (q : Rel G r h H) (z : VRs G r H xs vs) (p : Post G W r H s (VR G) Q (mkRef xs h)) : vs.length ≤ sizeLine ∧ ∀ a, H a = none → Q (.ref a) (upd H a (.lst vs)) := by
  unfold mkRef at p
  split at p
  · rename_i hz
    refine ⟨by rw [← z.length]; exact hz, fun a n => ?_⟩
    refine p (r.push a) _ _ (ext_alloc q n) (q.alloc n (.lst upd_same (z.ext (ext_alloc q n)))) (.ref ?_)
    rw [← q.len]; exact get_last
  · exact p.elim
def eDisp (mk : List Val → HM → Res Val) (m : AM) : EM := fun l h => (m l h).bind mk
theorem me_tup {k} (ha : MA X G W es mt) : ME X G W (.Tuple es k pos) (eDisp mkTup mt) := by
  refine ⟨fun pins s σ H Q I ⟨r, h, l, q, hl, p⟩ => (pe_tup ha).run pins s σ H Q I ⟨r, h, l, q, hl, (Post.bind p).imp fun xs H1 ⟨r1, h1, w1, e1, q1, z1, p1⟩ => ?_⟩⟩
  exact post_tup q1 z1 p1
theorem me_lstR (ha : MA X G W es mt) : ME X G W (.List es pos) (eDisp mkRef mt) := by
  refine ⟨fun pins s σ H Q I ⟨r, h, l, q, hl, p⟩ => (pe_lst ha).run pins s σ H Q I ⟨r, h, l, q, hl, (Post.bind p).imp fun xs H1 ⟨r1, h1, w1, e1, q1, z1, p1⟩ => ?_⟩⟩
  exact post_ref q1 z1 p1
end
end MM
namespace MM
open PySem L2
def sNil : SM := fun l h => .nx l h
def sSeq (a b : SM) : SM := fun l h => match a l h with
  | .nx l1 h1 => b l1 h1
  | x => x
def sDrop (m : EM) : SM := fun l h => (m l h).thn l fun _ h1 => .nx l h1
def sRet (m : EM) : SM := fun l h => (m l h).thn l fun v h1 => .rt v h1
def sIf (t : TM) (a b : SM) : SM := fun l h => (t l h).thn l fun c h1 => if c = true then a l h1 else b l h1
section
variable {X : Cx} {G : Glob} {W : WX} {r r1 : Ad} {H H1 : Hp} {h : HM} {l : Loc} {s : St} {st : Stmt} {rest : List Stmt} {a b : SM} {e : Expr} {m : EM} {pos : Pos}
theorem PostS.imp {D D' : Ends} {x : SRes} (p : PostS G W r H D x) (i : ∀ s H, D.nx s H → D'.nx s H) (j : ∀ v H, D.rt v H → D'.rt v H) : PostS G W r H D' x := by
  cases x with
  | nx l h' => exact fun r' H' s' e q z => i _ _ (p r' H' s' e q z)
  | rt v h' => exact fun r' H' u e q z => j _ _ (p r' H' u e q z)
  | exc c l h' => exact p
  | bad => exact p
theorem PostS.seq {D : Ends} {x : SRes} (p : PostS G W r H D (match x with | .nx l1 h1 => b l1 h1 | x => x)) : PostS G W r H { D with nx := tS G W b D } x := by
  cases x with
  | nx l h' => exact fun r' H' s' e q z => ⟨r', h', l, q, z, PostS.shift e p⟩
  | rt v h' => exact p
  | exc c l h' => exact p
  | bad => exact p
theorem mss_nil : MSs X G W [] sNil := ⟨fun pins s σ H D I ⟨r, h, l, q, hl, p⟩ => pss_nil.run pins s σ H D I (p r H σ Ext.refl q hl)⟩
theorem mss_cons (h1 : MS X G W st a) (h2 : MSs X G W rest b) : MSs X G W (st :: rest) (sSeq a b) := ⟨fun pins s σ H D I ⟨r, h, l, q, hl, p⟩ => (pss_cons h1 h2).run pins s σ H D I ⟨r, h, l, q, hl, PostS.seq p⟩⟩
theorem mss_one (h1 : MS X G W st a) : MSs X G W [st] a := ⟨fun pins s σ H D I p => (pss_one h1).run pins s σ H D I p⟩
theorem ms_expr (he : ME X G W e m) (hs : swapsWith e none pos.line X.env = pure false := by rfl) : MS X G W (.Expr e pos) (sDrop m) :=
  ⟨fun pins s σ H D I ⟨r, h, l, q, hl, p⟩ => (ps_expr he hs).run pins s σ H D I ⟨r, h, l, q, hl, (Post.thn hl p).imp fun v H1 ⟨r1, h1, x1, e1, q1, z1, p1⟩ => p1 r1 H1 σ Ext.refl q1 (hl.ext e1)⟩⟩
theorem ms_ret (he : ME X G W e m) : MS X G W (.Return (some e) pos) (sRet m) :=
  ⟨fun pins s σ H D I ⟨r, h, l, q, hl, p⟩ => (ps_ret he).run pins s σ H D I ⟨r, h, l, q, hl, (Post.thn hl p).imp fun v H1 ⟨r1, h1, x1, e1, q1, z1, p1⟩ => p1 r1 H1 v Ext.refl q1 z1⟩⟩
theorem ms_if {t : Expr} {mt : TM} {x y : List Stmt} (ht : MT X G W t mt) (ha : MSs X G W x a) (hb : MSs X G W y b) : MS X G W (.If t x y pos) (sIf mt a b) :=
  ⟨fun pins s σ H D I ⟨r, h, l, q, hl, p⟩ => (ps_if ht ha hb).run pins s σ H D I ⟨r, h, l, q, hl, (Post.thn hl p).imp fun c H1 ⟨r1, h1, x1, e1, q1, z1, p1⟩ => by
    cases z1
    cases c with
    | true => exact ⟨r1, h1, l, q1, hl.ext e1, p1⟩
    | false => exact ⟨r1, h1, l, q1, hl.ext e1, p1⟩⟩⟩
abbrev GM := Val → Loc → Option Loc
abbrev GsM := List Val → Loc → Option Loc
/-- the slots but those of vs are as they were -/
def Agree (vs : List Nat) (s s' : St) : Prop := s'.length = s.length ∧ ∀ j, j ∉ vs → s'[j]? = s[j]?
def Got (G : Glob) (vs : List Nat) (s : St) (r : Ad) (H : Hp) (Q : St → Hp → Prop) : Option Loc → Prop
  | some l' => ∀ s', LR G r H l' s' → Agree vs s s' → Q s' H
  | none => False
def tG (G : Glob) (vs : List Nat) (g : GM) : TG := fun v s H Q => ∃ r l x, LR G r H l s ∧ VR G r H x v ∧ Got G vs s r H Q (g x l)
def tGs (G : Glob) (vs : List Nat) (g : GsM) : TGs := fun us s H Q => ∃ r l xs, LR G r H l s ∧ VRs G r H xs us ∧ Got G vs s r H Q (g xs l)
abbrev MG (X : Cx) (G : Glob) (vs : List Nat) (t : Expr) (g : GM) : Prop := PG X t (tG G vs g)
abbrev MGs (X : Cx) (G : Glob) (vs : List Nat) (ts : List Expr) (g : GsM) : Prop := PGs X ts (tGs G vs g)
theorem Agree.refl {vs : List Nat} {s : St} : Agree vs s s := ⟨rfl, fun _ _ => rfl⟩
theorem Agree.set {i : Nat} {s : St} {v : V} : Agree [i] s (s.set i (some v)) := ⟨by simp, fun j hj => List.getElem?_set_ne (fun e => hj (by simp [e]))⟩
theorem Agree.trans {vs ws : List Nat} {s s1 s2 : St} (a : Agree vs s s1) (b : Agree ws s1 s2) : Agree (vs ++ ws) s s2 := ⟨b.1.trans a.1, fun j hj => by
  simp only [List.mem_append, not_or] at hj
  exact (b.2 j hj.2).trans (a.2 j hj.1)⟩
def gNm (i : Nat) : GM := fun x l => some (l.set i (some x))
theorem LR.set {i : Nat} {x : Val} {v : V} (hl : LR G r H l s) (z : VR G r H x v) : LR G r H (l.set i (some x)) (s.set i (some v)) := by
  refine ⟨by simp [hl.1], fun j w e => ?_⟩
  by_cases hj : j = i
  · subst hj
    have hlt : j < l.length := by
      have := (List.getElem?_eq_some_iff.mp e).1
      simpa using this
    rw [List.getElem?_set_self hlt] at e
    cases e
    exact ⟨v, List.getElem?_set_self (by rw [← hl.1]; exact hlt), z⟩
  · rw [List.getElem?_set_ne (Ne.symm hj)] at e
    rw [List.getElem?_set_ne (Ne.symm hj)]
    exact hl.2 j w e
theorem mg_name {i : Nat} {x : Str} (hN : X.N.Nodup) (hi : X.N[i]? = some x := by rfl) (hx : L2.Loc X.env.scope x := by first | exact Or.inl rfl | exact Or.inr rfl) (hf : X.fn x = true ∨ X.env.scope.names.lookup x = some .local := by first | exact .inl rfl | exact .inr rfl | assumption) : MG X G [i] (.Name x pos) (gNm i) :=
  ⟨fun pins s σ H v u Q I rv ⟨r, l, y, hl, z, p⟩ => (pg_name hN hi hx hf).run pins s σ H v u Q I rv (p _ (hl.set z) Agree.set)⟩
def gsNil : GsM := fun xs l => match xs with
  | [] => some l
  | _ => none
def gsCons (g : GM) (t : GsM) : GsM := fun xs l => match xs with
  | [] => none
  | x :: xs => (g x l).bind fun l1 => t xs l1
theorem mgs_nil : MGs X G [] [] gsNil := ⟨fun pins s σ H vs us Q I rv ⟨r, l, xs, hl, z, p⟩ => pgs_nil.run pins s σ H vs us Q I rv (by
  cases z with
  | nil => exact ⟨rfl, p σ hl Agree.refl⟩
  | cons _ _ => exact p.elim)⟩
variable {ts : List Expr} {t : Expr} {g : GM} {gs : GsM} {ws vs : List Nat}
theorem mgs_cons (h1 : MG X G ws t g) (h2 : MGs X G vs ts gs) (hs : (assignEach (t :: ts) X.env).map (·.2) = assign t X.env :: (assignEach ts X.env).map (·.2) := by rfl) : MGs X G (ws ++ vs) (t :: ts) (gsCons g gs) := by
  refine ⟨fun pins s σ H vs us Q I rv ⟨r, l, xs, hl, z, p⟩ => (pgs_cons h1 h2 hs).run pins s σ H vs us Q I rv ?_⟩
  cases z with
  | nil => exact p.elim
  | @cons x xs v us' z1 z2 =>
    refine ⟨_, _, rfl, r, l, _, hl, z1, ?_⟩
    simp only [gsCons] at p
    cases e : g x l with
    | none => rw [e] at p; exact p.elim
    | some l1 =>
      rw [e] at p
      refine fun s1 hl1 a1 => ⟨r, l1, _, hl1, z2, ?_⟩
      revert p
      simp only [Option.bind]
      cases gs xs l1 with
      | none => exact fun p => p
      | some l2 => exact fun p s2 hl2 a2 => p s2 hl2 (a1.trans a2)
def gTp (n : Nat) (gs : GsM) : GM := fun x l => match x with
  | .tup xs => if xs.length = n then gs xs l else none
  | .ptup xs => if xs.length = n then gs xs l else none
  | _ => none
theorem mg_tup {k n : Nat} (hc : X.calm = true) (h : MGs X G vs ts gs) (hn : (assignEach ts X.env).length = n := by rfl) (hst : (assignEach ts X.env).findIdx? (·.1) = none := by rfl) : MG X G vs (.Tuple ts k pos) (gTp n gs) := by
  refine ⟨fun pins s σ H v u Q I rv ⟨r, l, x, hl, z, p⟩ => (pg_tup hc h hn hst).run pins s σ H v u Q I rv ?_⟩
  cases z with
  | @tup a us' xs d m q =>
    simp only [gTp] at p
    split at p
    · rename_i hz
      exact ⟨_, _, rfl, .inl (.inl d), by rw [← q.length]; exact hz, r, l, xs, hl, q, p⟩
    · exact p.elim
  | @ptup a ob us' xs d dn m q =>
    simp only [gTp] at p
    split at p
    · rename_i hz
      exact ⟨_, _, rfl, .inl (.inr ⟨_, d⟩), by rw [← q.length]; exact hz, r, l, xs, hl, q, p⟩
    · exact p.elim
  | _ => exact p.elim
def sAsg (m : EM) (g : GM) : SM := fun l h => (m l h).thn l fun x h1 => match g x l with
  | some l1 => .nx l1 h1
  | none => .bad
theorem got_of {x : Val} {v : V} {D : Ends} (q : Rel G r h H) (hl : LR G r H l s) (z : VR G r H x v) (p : PostS G W r H D (match g x l with | some l1 => .nx l1 h | none => .bad)) : tG G vs g v s H D.nx := by
  refine ⟨r, l, x, hl, z, ?_⟩
  cases e : g x l with
  | none => rw [e] at p; exact p.elim
  | some l1 => rw [e] at p; exact fun s1 hl1 _ => p r H s1 Ext.refl q hl1
theorem ms_asg (he : ME X G W e m) (hg : MG X G vs t g) (hs : swapsWithSole [t] e pos.line X.env = pure false := by rfl) (hw : swappedStores [t] e X.env = pure none := by rfl)
    (h1 : (assignEach [t] X.env).map (·.2) = [assign t X.env] := by rfl) : MS X G W (.Assign [t] e pos) (sAsg m g) :=
  ⟨fun pins s σ H D I ⟨r, h, l, q, hl, p⟩ => (ps_asg he hg hs hw h1).run pins s σ H D I ⟨r, h, l, q, hl, (Post.thn hl p).imp fun v H1 ⟨r1, h1, x1, e1, q1, z1, p1⟩ => got_of q1 (hl.ext e1) z1 p1⟩⟩
theorem ms_set {i : Nat} {x : Str} {pos' : Pos} (hN : X.N.Nodup) (he : ME X G W e m) (hi : X.N[i]? = some x := by rfl) (hx : L2.Loc X.env.scope x := by first | exact Or.inl rfl | exact Or.inr rfl) (hs : swapsWith e (some (.Name x pos')) pos.line X.env = pure false := by rfl)
    (hf : X.fn x = true ∨ X.env.scope.names.lookup x = some .local := by first | exact .inl rfl | exact .inr rfl | assumption) : MS X G W (.Assign [.Name x pos'] e pos) (sAsg m (gNm i)) :=
  ⟨fun pins s σ H D I ⟨r, h, l, q, hl, p⟩ => (ps_set hN hi hx he hs hf).run pins s σ H D I ⟨r, h, l, q, hl, (Post.thn hl p).imp fun v H1 ⟨r1, h1, x1, e1, q1, z1, p1⟩ => p1 r1 H1 _ Ext.refl q1 ((hl.ext e1).set z1)⟩⟩
structure Src where
  len : Nat
  get : Nat → HM → Option Val
  ok : HM → Bool
def srcItems (xs : List Val) : Src := ⟨xs.length, fun i _ => xs[i]?, fun _ => true⟩
/-- a list that may change (not its length) -/
def lenIs (n k : Nat) (h : HM) : Bool := match h[n]? with
  | some (.lst xs) => xs.length == k
  | _ => false
def srcRef (n k : Nat) : Src := ⟨k, fun i h => if lenIs n k h = true then (match h[n]? with | some (.lst xs) => xs[i]? | _ => none) else none, lenIs n k⟩
def SrcR (G : Glob) (r : Ad) (H : Hp) (src : Src) (J : It) : Prop :=
  ∀ r2 H2 h2, Ex r H r2 H2 → (∀ a ∈ r.lk, H2 a = H a) → Rel G r2 h2 H2 →
    (∀ i x, i < src.len → src.get i h2 = some x → J.go i H2 ∧ ∀ v H3, J.yld i H2 v H3 → Ext r2 H2 r2 H3 ∧ Rel G r2 h2 H3 ∧ VR G r2 H3 x v) ∧ (src.ok h2 = true → J.stop src.len H2)
abbrev IM := Loc → HM → Res Src
def tI (G : Glob) (W : WX) (m : IM) : TI := fun s H R => ∃ r h l, Rel G r h H ∧ LR G r H l s ∧ Post G W r H s (SrcR G) R (m l h)
abbrev MI (X : Cx) (G : Glob) (W : WX) (tg e : Expr) (m : IM) : Prop := PI X tg e (tI G W m)
def forL (src : Src) (g : GM) (b : SM) : Nat → Nat → SM
  | 0, _, l, h => if src.ok h = true then .nx l h else .bad
  | n + 1, i, l, h => match src.get i h with
    | none => .bad
    | some x => match g x l with
      | none => .bad
      | some l1 => match b l1 h with
        | .nx l2 h2 => forL src g b n (i + 1) l2 h2
        | x => x
def sFor (ms : IM) (g : GM) (b : SM) : SM := fun l h => (ms l h).thn l fun src h1 => forL src g b src.len 0 l h1
theorem ms_for {iter : Expr} {body : List Stmt} {mi : IM} (hp : PassesOwn (model X.prog X.w) X.A X.env X.xe) (hc : X.calm = true) (hi : MI X G W t iter mi) (hg : MG X G vs t g) (hb : MSs X G W body b)
    (hs : ∀ x, foldedSetIterable iter X.env x = pure x := by intro _; rfl) : MS X G W (.For t iter body [] pos) (sFor mi g b) := by
  refine ⟨fun pins s σ H D I ⟨r, h, l, q, hl, p⟩ => (ps_for hp hc hi hg hb hs).run pins s σ H D I ⟨r, h, l, q, hl, (Post.thn hl p).imp fun J H1 ⟨r1, h1, src, e1, q1, z1, p1⟩ => ?_⟩⟩
  refine ⟨fun i m σ' H' => ∃ r' h' l', Ext r1 H1 r' H' ∧ Rel G r' h' H' ∧ LR G r' H' l' σ' ∧ i + m = src.len ∧ PostS G W r' H' D (forL src g b m i l' h'), ⟨src.len, r1, h1, l, Ext.refl, q1, hl.ext e1, Nat.zero_add _, p1⟩, ?_⟩
  rintro i m σ' H' ⟨r', h', l', e', q', hl', him, p'⟩
  obtain ⟨zg, zs⟩ := z1 r' H' h' e'.toEx e'.lks q'
  cases m with
  | zero =>
    left
    simp only [forL] at p'
    split at p'
    · rename_i ho
      have : i = src.len := by omega
      subst this
      exact ⟨zs ho, p' r' H' σ' Ext.refl q' hl'⟩
    · exact p'.elim
  | succ m =>
    right
    simp only [forL] at p'
    cases eg : src.get i h' with
    | none => rw [eg] at p'; exact p'.elim
    | some x =>
      rw [eg] at p'
      obtain ⟨go, yl⟩ := zg i x (by omega) eg
      refine ⟨go, fun σ2 H2 => ∃ r2 h2 l2, Ext r1 H1 r2 H2 ∧ Rel G r2 h2 H2 ∧ LR G r2 H2 l2 σ2 ∧ i + 1 + m = src.len ∧ PostS G W r2 H2 D (forL src g b m (i + 1) l2 h2), fun σ2 H2 n2 => ⟨m, Nat.lt_succ_self _, n2⟩, fun v H3 y => ?_⟩
      obtain ⟨e3, q3, z3⟩ := yl v H3 y
      refine ⟨r', l', x, hl'.ext e3, z3, ?_⟩
      simp only at p'
      cases ex : g x l' with
      | none => rw [ex] at p'; exact p'.elim
      | some l4 =>
        rw [ex] at p'
        simp only at p'
        refine fun σ4 hl4 _ => ⟨r', h', l4, q3, hl4, ?_⟩
        revert p'
        cases b l4 h' with
        | nx l5 h5 => exact fun p' r6 H6 σ6 e6 q6 hl6 => ⟨r6, h5, l5, (e'.trans e3).trans e6, q6, hl6, by omega, PostS.shift (e3.trans e6) p'⟩
        | rt v5 h5 => exact fun p' => PostS.shift (x := .rt v5 h5) e3 p'
        | exc c l5 h5 => exact fun p' => PostS.shift (x := .exc c l5 h5) (D := D) e3 p'
        | bad => exact fun p' => p'
/-- while; n: more turns than it takes -/
def whL (t : TM) (b : SM) : Nat → SM
  | 0, _, _ => .bad
  | n + 1, l, h => (t l h).thn l fun c h1 => if c = true then (match b l h1 with
    | .nx l2 h2 => whL t b n l2 h2
    | x => x) else .nx l h1
theorem ms_while {c : Expr} {body : List Stmt} {mt : TM} (n : Nat) (hp : PassesOwn (model X.prog X.w) X.A X.env X.xe) (ht : MT X G W c mt) (hb : MSs X G W body b) : MS X G W (.While c body [] pos) (whL mt b n) := by
  refine ⟨fun pins s σ H D I ⟨r, h, l, q, hl, p⟩ => (ps_while hp ht hb).run pins s σ H D I ?_⟩
  refine ⟨fun m σ' H' => ∃ r' h' l', Rel G r' h' H' ∧ LR G r' H' l' σ' ∧ PostS G W r' H' D (whL mt b m l' h'), ⟨n, r, h, l, q, hl, p⟩, ?_⟩
  rintro m σ' H' ⟨r', h', l', q', hl', p'⟩
  cases m with
  | zero => exact p'.elim
  | succ m =>
    refine ⟨r', h', l', q', hl', (Post.thn hl' p').imp fun c H1 ⟨r1, h1, x1, e1, q1, z1, p1⟩ => ?_⟩
    cases z1
    cases c with
    | false =>
      simp only [Bool.false_eq_true, if_false] at p1 ⊢
      exact p1 r1 H1 σ' Ext.refl q1 (hl'.ext e1)
    | true =>
      simp only [if_true] at p1 ⊢
      refine ⟨fun σ2 H2 => ∃ r2 h2 l2, Rel G r2 h2 H2 ∧ LR G r2 H2 l2 σ2 ∧ PostS G W r2 H2 D (whL mt b m l2 h2), fun σ2 H2 n2 => ⟨m, Nat.lt_succ_self _, n2⟩, r1, h1, l', q1, hl'.ext e1, ?_⟩
      revert p1
      cases b l' h1 with
      | nx l5 h5 => exact fun p1 r6 H6 σ6 e6 q6 hl6 => ⟨r6, h5, l5, q6, hl6, PostS.shift e6 p1⟩
      | rt v5 h5 => exact fun p1 => p1
      | exc c l5 h5 => exact fun p1 => p1
      | bad => exact fun p1 => p1
end
end MM
namespace MM
open PySem L2
abbrev W0 : WX := fun _ _ _ _ => False
def wipeL (l : Loc) : List Nat → Loc
  | [] => l
  | v :: vs => (wipeL l vs).set v none
/-- one turn behind another; l: the locals, the own names wiped -/
def lcL (src : Src) (g : GM) (tt : TM) (te : EM) (l : Loc) : Nat → Nat → HM → List Val → Res (List Val)
  | 0, _, h, acc => if src.ok h = true then .ok acc h else .bad
  | n + 1, i, h, acc => match src.get i h with
    | none => .bad
    | some x => match g x l with
      | none => .bad
      | some l1 => match tt l1 h with
        | .ok true h1 => (match te l1 h1 with
          | .ok y h2 => if acc.length < sizeLine then lcL src g tt te l n (i + 1) h2 (acc ++ [y]) else .bad
          | _ => .bad)
        | .ok false h1 => lcL src g tt te l n (i + 1) h1 acc
        | _ => .bad
def frozen (xs : List Val) (h : HM) : Res Val := .ok (.lst xs) h
def fresh (xs : List Val) (h : HM) : Res Val := .ok (.ref h.length) (h ++ [.lst xs])
def eLc (mi : IM) (g : GM) (tt : TM) (te : EM) (vs : List Nat) (mk : List Val → HM → Res Val) : EM := fun l h => (mi l h).bind fun src h1 => (lcL src g tt te (wipeL l vs) src.len 0 h1 []).bind mk
def tYesM : TM := fun _ h => .ok true h
section
variable {X : Cx} {G : Glob} {W : WX} {r r1 r2 : Ad} {H H1 H2 : Hp} {h h1 : HM} {l : Loc} {s : St}
theorem LR.wipe (hl : LR G r H l s) (vs : List Nat) : LR G r H (wipeL l vs) (wipe s vs) := by
  induction vs with
  | nil => exact hl
  | cons v vs ih =>
    refine ⟨by simp [wipeL, L2.wipe, ih.1], fun i x e => ?_⟩
    simp only [wipeL, L2.wipe] at e ⊢
    by_cases hv : v = i
    · subst hv
      by_cases hlt : v < (wipeL l vs).length
      · rw [List.getElem?_set_self hlt] at e; cases e
      · rw [List.getElem?_eq_none (by simpa using hlt)] at e; cases e
    · rw [List.getElem?_set_ne hv] at e
      rw [List.getElem?_set_ne hv]
      exact ih.2 i x e
theorem wipe_get {s : St} {i : Nat} : ∀ {vs : List Nat}, (wipe s vs)[i]? = if i ∈ vs then (if i < s.length then some none else none) else s[i]?
  | [] => by simp [L2.wipe]
  | v :: vs => by
    simp only [L2.wipe]
    by_cases hv : v = i
    · subst hv
      by_cases hlt : v < (wipe s vs).length
      · rw [List.getElem?_set_self hlt]
        rw [wipe_length] at hlt
        simp [hlt]
      · rw [List.getElem?_eq_none (by simpa using hlt)]
        rw [wipe_length] at hlt
        simp [hlt]
    · rw [List.getElem?_set_ne hv, wipe_get]
      have : (i ∈ v :: vs) ↔ i ∈ vs := by
        simp only [List.mem_cons]
        exact ⟨fun z => z.resolve_left (Ne.symm hv), .inr⟩
      simp only [this]
theorem wipe_agree {ws vs : List Nat} {s s' : St} (a : Agree ws s s') (hv : ∀ v ∈ ws, v ∈ vs) : wipe s' vs = wipe s vs := by
  apply List.ext_getElem?
  intro i
  rw [wipe_get, wipe_get, a.1]
  by_cases hi : i ∈ vs
  · simp [hi]
  · simp only [hi, if_false]
    exact a.2 i fun m => hi (hv i m)
theorem wipe_wipe {vs : List Nat} {s : St} : wipe (wipe s vs) vs = wipe s vs := by
  apply List.ext_getElem?
  intro i
  rw [wipe_get, wipe_get, wipe_length]
  by_cases hi : i ∈ vs
  · simp [hi]
  · simp [hi, wipe_get]
/-- the state with the list at D hidden -/
structure Hid (G : Glob) (r1 : Ad) (H1 : Hp) (D : Addr) (r2 : Ad) (h2 : HM) (H2 : Hp) (xs : List Val) (us : List V) : Prop where
  ex : Ex (r1.hide D) (upd H1 D (.lst [])) r2 H2
  hh : r2.hid = D :: r1.hid
  hk : ∀ a ∈ r1.hid, H2 a = H1 a
  q : Rel G r2 h2 H2
  at_ : H2 D = some (.lst us)
  z : VRs G r2 H2 xs us
  lkk : r2.lk = r1.lk
  lks : ∀ a ∈ r1.lk, H2 a = H1 a
/-- what is to come of the list in the making -/
def PostC (G : Glob) (r1 : Ad) (H1 : Hp) (D : Addr) (Q : Hp → Prop) : Res (List Val) → Prop
  | .ok xs h2 => ∀ r2 H2 us, Hid G r1 H1 D r2 h2 H2 xs us → Q H2
  | _ => False
theorem post_frozen {D : Addr} {Q : VK} {x : Res (List Val)} (q1 : Rel G r1 h1 H1) (nD : H1 D = none) (p : Post G W0 r1 H1 s (VR G) Q (x.bind frozen)) (np : ∀ c h, x ≠ .exc c h) : PostC G r1 H1 D (Q (.ref D)) x := by
  cases x with
  | ok xs h2 =>
    intro r2 H2 us ⟨ex, hh, hk, q, at_, z, lkk, lks⟩
    have mD : D ∈ r2.hid := by rw [hh]; exact List.mem_cons_self
    exact p (r2.show_ r1.hid) H2 _ (ext_made q1 nD ex hh hk lkk lks) (q.show_ hh) (.lst at_ ⟨(q.hid D mD).1, (q1.new nD).2⟩ (z.ex (ex_show hh)))
  | exc c h => exact absurd rfl (np c h)
  | bad => exact p
theorem post_fresh {D : Addr} {Q : VK} {x : Res (List Val)} (q1 : Rel G r1 h1 H1) (nD : H1 D = none) (p : Post G W0 r1 H1 s (VR G) Q (x.bind fresh)) (np : ∀ c h, x ≠ .exc c h) : PostC G r1 H1 D (Q (.ref D)) x := by
  cases x with
  | ok xs h2 =>
    intro r2 H2 us ⟨ex, hh, hk, q, at_, z, lkk, lks⟩
    have mD : D ∈ r2.hid := by rw [hh]; exact List.mem_cons_self
    have xp : Ex r2 H2 ((r2.show_ r1.hid).push D) H2 := ⟨List.prefix_append _ _, fun a u za na => ⟨za, by
      refine ⟨?_, fun m => na.2 (by rw [hh]; exact List.mem_cons_of_mem _ m)⟩
      simp only [Ad.push, Ad.show_, List.mem_append, List.mem_singleton, not_or]
      exact ⟨na.1, fun e => na.2 (by rw [e]; exact mD)⟩⟩⟩
    have qp : Rel G ((r2.show_ r1.hid).push D) (h2 ++ [.lst xs]) H2 := by
      refine ⟨?_, by simp [Ad.push, Ad.show_, q.len], fun a m => ?_, fun n a w e1 e2 => ?_, fun a m => ⟨fun m2 => (q.lk a m).1 (by rw [hh]; exact List.mem_cons_of_mem _ m2), (q.lk a m).2⟩, fun n a w e1 e2 hw => ?_⟩
      · simp only [Ad.push, Ad.show_]
        rw [List.nodup_append]
        refine ⟨q.nd, by simp, fun a ha b hb => ?_⟩
        simp at hb
        subst hb
        exact fun e => (q.hid _ mD).1 (e ▸ ha)
      · have m2 : a ∈ r2.hid := by rw [hh]; exact List.mem_cons_of_mem _ m
        refine ⟨?_, (q.hd a m2).2⟩
        simp only [Ad.push, Ad.show_, List.mem_append, List.mem_singleton, not_or]
        exact ⟨(q.hid a m2).1, fun e => (q1.new nD).2 (e ▸ m)⟩
      · have e1 : (r2.ix ++ [D])[n]? = some a := e1
        by_cases hn : n < r2.ix.length
        · rw [List.getElem?_append_left hn] at e1
          rw [List.getElem?_append_left (by rw [← q.len]; exact hn)] at e2
          exact (q.ob n a w e1 e2).ex xp rfl
        · have hn' : n = r2.ix.length := by
            have := (List.getElem?_eq_some_iff.mp e1).1
            simp at this
            omega
          subst hn'
          rw [List.getElem?_append_right (Nat.le_refl _)] at e1
          rw [q.len, List.getElem?_append_right (Nat.le_refl _)] at e2
          simp at e1 e2
          subst e1 e2
          exact .lst at_ (z.ex xp)
      · have e1 : (r2.ix ++ [D])[n]? = some a := e1
        by_cases hn : n < r2.ix.length
        · rw [List.getElem?_append_left hn] at e1
          rw [List.getElem?_append_left (by rw [← q.len]; exact hn)] at e2
          exact q.lo n a w e1 e2 hw
        · have hn' : n = r2.ix.length := by
            have := (List.getElem?_eq_some_iff.mp e1).1
            simp at this
            omega
          subst hn'
          rw [q.len, List.getElem?_append_right (Nat.le_refl _)] at e2
          simp at e2
          subst e2
          cases hw
    refine p _ H2 _ ⟨((ex_hide nD).trans ex).trans xp, rfl, hk, lkk, lks⟩ qp (.ref ?_)
    rw [← q.len]
    exact get_last
  | exc c h => exact absurd rfl (np c h)
  | bad => exact p
/-- the loop of a comprehension -/
theorem lc_loop {src : Src} {J : It} {g : GM} {tt : TM} {te : EM} {own ws : List Nat} {D : Addr} {Q : Hp → Prop}
    (q1 : Rel G r1 h1 H1) (z1 : SrcR G r1 H1 src J) (hl : LR G r1 H1 l s) (hv : ∀ v ∈ ws, v ∈ own) (nD : H1 D = none)
    (p : PostC G r1 H1 D Q (lcL src g tt te (wipeL l own) src.len 0 h1 [])) :
    ∃ Wv : Nat → Nat → Hp → Prop, (∃ m, Wv 0 m (upd H1 D (.lst []))) ∧ ∀ i m H, Wv i m H →
      (J.stop i H ∧ Q H) ∨ (J.go i H ∧ ∃ Nx : Hp → Prop, (∀ H', Nx H' → ∃ m', m' < m ∧ Wv (i + 1) m' H') ∧ ∀ x H', J.yld i H x H' → tG G ws g x (wipe s own) H' fun σ2 H2 => wipe σ2 own = wipe s own ∧ tT G W0 tt σ2 H2 fun b H3 =>
        if b = true then tE G W0 te σ2 H3 fun y H4 => ∃ acc, H4 D = some (.lst acc) ∧ acc.length < sizeLine ∧ Nx (upd H4 D (.lst (acc ++ [y]))) else Nx H3) := by
  have hlw := hl.wipe own
  -- the sources seen through the hiding
  refine ⟨fun i m H => ∃ r' h' acc us, Ex (r1.hide D) (upd H1 D (.lst [])) r' H ∧ r'.hid = D :: r1.hid ∧ (∀ a ∈ r1.hid, H a = H1 a) ∧ (r'.lk = r1.lk ∧ ∀ a ∈ r1.lk, H a = H1 a) ∧ Rel G r' h' H ∧ H D = some (.lst us) ∧ VRs G r' H acc us ∧ i + m = src.len ∧
    PostC G r1 H1 D Q (lcL src g tt te (wipeL l own) m i h' acc), ⟨src.len, r1.hide D, h1, [], [], Ext.refl.toEx, rfl, fun a ha => ?_, ⟨rfl, fun a ha => ?_⟩, q1.hide nD, upd_same, .nil, Nat.zero_add _, p⟩, ?_⟩
  · exact upd_ne fun e => (q1.hid a ha).2 (by rw [e]; exact nD)
  · exact upd_ne fun e => q1.lk_there ha (by rw [e]; exact nD)
  rintro i m H ⟨r', h', acc, us, ex, hh, hk, ⟨lkk, lks⟩, q', hD, za, him, p'⟩
  have mD : D ∈ r'.hid := by rw [hh]; exact List.mem_cons_self
  have xt : Ext r1 H1 (r'.show_ r1.hid) H := ext_made q1 nD ex hh hk lkk lks
  have qs := q'.show_ hh
  have outD : (r'.show_ r1.hid).out D := ⟨(q'.hid D mD).1, (q1.new nD).2⟩
  obtain ⟨zg, zs⟩ := z1 _ H h' ((ex_hide nD).trans ex) lks q'
  cases m with
  | zero =>
    left
    simp only [lcL] at p'
    split at p'
    · rename_i ho
      have : i = src.len := by omega
      subst this
      exact ⟨zs ho, p' _ H us ⟨ex, hh, hk, q', hD, za, lkk, lks⟩⟩
    · exact p'.elim
  | succ m =>
    right
    simp only [lcL] at p'
    cases eg : src.get i h' with
    | none => rw [eg] at p'; exact p'.elim
    | some x =>
      rw [eg] at p'
      obtain ⟨go, yl⟩ := zg i x (by omega) eg
      refine ⟨go, fun H' => ∃ r' h' acc us, Ex (r1.hide D) (upd H1 D (.lst [])) r' H' ∧ r'.hid = D :: r1.hid ∧ (∀ a ∈ r1.hid, H' a = H1 a) ∧ (r'.lk = r1.lk ∧ ∀ a ∈ r1.lk, H' a = H1 a) ∧ Rel G r' h' H' ∧ H' D = some (.lst us) ∧ VRs G r' H' acc us ∧ i + 1 + m = src.len ∧
        PostC G r1 H1 D Q (lcL src g tt te (wipeL l own) m (i + 1) h' acc), fun H' n => ⟨m, Nat.lt_succ_self _, n⟩, fun v H3 y => ?_⟩
      obtain ⟨e3, q3, z3⟩ := yl v H3 y
      have hD3 : H3 D = some (.lst us) := (e3.hk D mD).trans hD
      have hk3 : ∀ a ∈ r1.hid, H3 a = H1 a := fun a ha => (e3.hk a (by rw [hh]; exact List.mem_cons_of_mem _ ha)).trans (hk a ha)
      have lks3 : ∀ a ∈ r1.lk, H3 a = H1 a := fun a ha => (e3.lks a (by rw [lkk]; exact ha)).trans (lks a ha)
      have exa : Ex r1 H1 r' H3 := ((ex_hide nD).trans ex).trans e3.toEx
      refine ⟨r', wipeL l own, x, hlw.ex exa, z3, ?_⟩
      simp only at p'
      cases ex1 : g x (wipeL l own) with
      | none => rw [ex1] at p'; exact p'.elim
      | some l1 =>
        rw [ex1] at p'
        simp only at p'
        refine fun σ2 hl2 ag => ⟨(wipe_agree ag hv).trans wipe_wipe, r', h', l1, q3, hl2, ?_⟩
        cases et : tt l1 h' with
        | bad => rw [et] at p'; exact p'.elim
        | exc c hc => rw [et] at p'; exact p'.elim
        | ok b h4 =>
          rw [et] at p'
          intro r4 H4 b' e4 q4 eb
          have eb : b' = b := eb
          subst eb
          have hh4 : r4.hid = D :: r1.hid := e4.hid.trans hh
          have mD4 : D ∈ r4.hid := by rw [hh4]; exact List.mem_cons_self
          have hD4 : H4 D = some (.lst us) := (e4.hk D mD).trans hD3
          have hk4 : ∀ a ∈ r1.hid, H4 a = H1 a := fun a ha => (e4.hk a (by rw [hh]; exact List.mem_cons_of_mem _ ha)).trans (hk3 a ha)
          have lkk4 : r4.lk = r1.lk := e4.lkk.trans lkk
          have lks4 : ∀ a ∈ r1.lk, H4 a = H1 a := fun a ha => (e4.lks a (by rw [lkk]; exact ha)).trans (lks3 a ha)
          have ex4 := (ex.trans e3.toEx).trans e4.toEx
          have za4 := (za.ext e3).ext e4
          cases b' with
          | false =>
            simp only [Bool.false_eq_true, if_false] at p' ⊢
            exact ⟨r4, h4, acc, us, ex4, hh4, hk4, ⟨lkk4, lks4⟩, q4, hD4, za4, by omega, p'⟩
          | true =>
            simp only [if_true] at p' ⊢
            refine ⟨r4, h4, l1, q4, hl2.ext e4, ?_⟩
            cases ee : te l1 h4 with
            | bad => rw [ee] at p'; exact p'.elim
            | exc c hc => rw [ee] at p'; exact p'.elim
            | ok y5 h5 =>
              rw [ee] at p'
              simp only at p'
              split at p'
              · rename_i hz
                intro r5 H5 u e5 q5 zu
                have hh5 : r5.hid = D :: r1.hid := e5.hid.trans hh4
                have mD5 : D ∈ r5.hid := by rw [hh5]; exact List.mem_cons_self
                have hD5 : H5 D = some (.lst us) := (e5.hk D mD4).trans hD4
                have za5 := za4.ext e5
                have xg : Ex r5 H5 r5 (upd H5 D (.lst (us ++ [u]))) := ex_grow mD5
                refine ⟨us, hD5, by rw [← za5.length]; exact hz, r5, h5, acc ++ [y5], us ++ [u], (ex4.trans e5.toEx).trans xg, hh5, fun a ha => ?_, ⟨e5.lkk.trans lkk4, fun a ha => ?_⟩, q5.grow mD5, upd_same, (za5.append (.cons zu .nil)).ex xg, by omega, p'⟩
                have hne : a ≠ D := fun e => (q1.hid a ha).2 (by rw [e]; exact nD)
                rw [upd_ne hne]
                exact (e5.hk a (by rw [hh4]; exact List.mem_cons_of_mem _ ha)).trans (hk4 a ha)
                have hne2 : a ≠ D := fun e => q1.lk_there ha (by rw [e]; exact nD)
                rw [upd_ne hne2]
                exact (e5.lks a (by rw [lkk4]; exact ha)).trans (lks4 a ha)
              · exact p'.elim
theorem lcL_noexc {src : Src} {g : GM} {tt : TM} {te : EM} {l : Loc} (c : Nat) (hc : HM) : ∀ (n i : Nat) (h : HM) (acc : List Val), lcL src g tt te l n i h acc ≠ .exc c hc
  | 0, i, h, acc => by simp only [lcL]; split <;> simp
  | n + 1, i, h, acc => by
    simp only [lcL]
    have ih := lcL_noexc (src := src) (g := g) (tt := tt) (te := te) (l := l) c hc n
    repeat' split
    all_goals first
      | exact ih _ _ _
      | simp
/-- post of a way that lets nothing out -/
theorem Post.w0 {α β : Type} {R : Ad → Hp → α → β → Prop} {Q : β → Hp → Prop} {x : Res α} (p : Post G W r H s R Q x) (np : ∀ c h, x ≠ .exc c h) : Post G W0 r H s R Q x := by
  cases x with
  | ok a h => exact p
  | exc c h => exact absurd rfl (np c h)
  | bad => exact p
variable {tg iter elt : Expr} {ifs : List Expr} {scope : Scope} {own : List (Str × Nat)} {pos : Pos} {mi : IM} {g : GM} {tt : TM} {te : EM} {ws : List Nat} {mk : List Val → HM → Res Val}
theorem lc_read {Q : VK} (hm : mk = frozen ∨ mk = fresh) (hv : ∀ v ∈ ws, v ∈ own.map (·.2)) (q : Rel G r h H) (hl : LR G r H l s) (p : Post G W r H s (VR G) Q (eLc mi g tt te (own.map (·.2)) mk l h)) :
    tLc (tI G W mi) (tG G ws g) (tT G W0 tt) (tE G W0 te) (own.map (·.2)) s H Q := by
  refine ⟨r, h, l, q, hl, (Post.bind p).imp fun J H1 ⟨r1, h1, src, e1, q1, z1, p1⟩ => fun D nD => ?_⟩
  have np := fun c hc => lcL_noexc (src := src) (g := g) (tt := tt) (te := te) (l := wipeL l (own.map (·.2))) c hc src.len 0 h1 []
  have np2 : ∀ c hc, (lcL src g tt te (wipeL l (own.map (·.2))) src.len 0 h1 []).bind mk ≠ .exc c hc := fun c hc => by
    cases e : lcL src g tt te (wipeL l (own.map (·.2))) src.len 0 h1 [] with
    | ok xs h2 => rcases hm with rfl | rfl <;> simp [frozen, fresh]
    | exc c' h' => exact absurd e (np c' h')
    | bad => simp
  refine lc_loop q1 z1 (hl.ext e1) hv nD ?_
  rcases hm with rfl | rfl
  · exact post_frozen q1 nD (p1.w0 np2) np
  · exact post_fresh q1 nD (p1.w0 np2) np
theorem me_lc (hm : mk = frozen ∨ mk = fresh) (hc : X.calm = true) (hN : X.N.Nodup) (hi : MI X G W tg iter mi) (ok : BlkOk X.N X.env.scope scope own)
    (hg : ∀ (s : Shared) (H : Hp) (C : Addr) (cl : List (Str × Addr)) (fp : List Addr), MG (X.blk s H scope (compEnvC scope cl C X.env) fp) G ws tg g) (ht : ∀ (s : Shared) (H : Hp) (C : Addr) (cl : List (Str × Addr)) (fp : List Addr), PTs (X.blk s H scope (compEnvC scope cl C X.env) fp) ifs (tT G W0 tt))
    (he : ∀ (s : Shared) (H : Hp) (C : Addr) (cl : List (Str × Addr)) (fp : List Addr), ME (X.blk s H scope (compEnvC scope cl C X.env) fp) G W0 elt te) (hv : ∀ v ∈ ws, v ∈ own.map (·.2)) (hs : ∀ x, foldedSetIterable iter X.env x = pure x := by intro _; rfl) :
    ME X G W (.ListComp elt [⟨tg, iter, ifs, 0⟩] scope pos) (eLc mi g tt te (own.map (·.2)) mk) :=
  ⟨fun pins s σ H Q I ⟨r, h, l, q, hl, p⟩ => (pe_lc hc hN hi ok hg ht he hs).run pins s σ H Q I (lc_read hm hv q hl p)⟩
theorem mts_nil : PTs X [] (tT G W0 tYesM) := ⟨fun pins s σ H Q I ⟨r, h, l, q, hl, p⟩ => pts_nil.run pins s σ H Q I (Post.here (R := REq) q rfl p)⟩
theorem mts_one {c : Expr} (h : MT X G W0 c tt) : PTs X [c] (tT G W0 tt) := pts_one h
/-- name = [..] on one line, the name a local -/
theorem ms_setLc {i : Nat} {y : Str} {py spos : Pos} (hm : mk = frozen ∨ mk = fresh) (hc : X.calm = true) (hN : X.N.Nodup) (hy : X.N[i]? = some y) (hyl : X.env.scope.names.lookup y = some .local)
    (hsw : swapsWith (.ListComp elt [⟨tg, iter, ifs, 0⟩] scope pos) (some (.Name y py)) spos.line X.env = pure true) (hi : MI X G W tg iter mi) (ok : BlkOk X.N X.env.scope scope own)
    (hg : ∀ (s : Shared) (H : Hp) (C : Addr) (cl : List (Str × Addr)) (fp : List Addr), MG (X.blk s H scope (compEnvC scope cl C X.env) fp) G ws tg g) (ht : ∀ (s : Shared) (H : Hp) (C : Addr) (cl : List (Str × Addr)) (fp : List Addr), PTs (X.blk s H scope (compEnvC scope cl C X.env) fp) ifs (tT G W0 tt))
    (he : ∀ (s : Shared) (H : Hp) (C : Addr) (cl : List (Str × Addr)) (fp : List Addr), ME (X.blk s H scope (compEnvC scope cl C X.env) fp) G W0 elt te) (hv : ∀ v ∈ ws, v ∈ own.map (·.2)) (hs : ∀ x, foldedSetIterable iter X.env x = pure x := by intro _; rfl) :
    MS X G W (.Assign [.Name y py] (.ListComp elt [⟨tg, iter, ifs, 0⟩] scope pos) spos) (sAsg (eLc mi g tt te (own.map (·.2)) mk) (gNm i)) :=
  ⟨fun pins s σ H D I ⟨r, h, l, q, hl, p⟩ => (ps_setLc hc hN hy hyl hsw hi ok hg ht he hs).run pins s σ H D I (lc_read hm hv q hl ((Post.thn hl p).imp fun v H1 ⟨r1, h1, x1, e1, q1, z1, p1⟩ => p1 r1 H1 _ Ext.refl q1 ((hl.ext e1).set z1)))⟩
end
end MM
namespace MM
open PySem L2
section
variable {X : Cx} {G : Glob} {W : WX} {r r1 r2 : Ad} {H H1 H2 : Hp} {h h1 : HM} {l : Loc} {s : St} {K : PySem.W.Frag} {a : Addr} {xs : List Val} {vs : List V} {n k : Nat}
theorem srcR_tup (d : Rd H a (.tup vs)) (o : r.out a) (z : VRs G r H xs vs) : SrcR G r H (srcItems xs) (Itt K a) := by
  intro r2 H2 h2 e lk q
  obtain ⟨d2, o2⟩ := e.rd d o
  have z2 := z.ex e
  refine ⟨fun i x _ ex => ?_, fun _ => ⟨vs, .inl d2, by show vs.length ≤ xs.length; rw [z.length]; exact Nat.le_refl _⟩⟩
  obtain ⟨v, hv, zv⟩ := z2.get (show xs[i]? = some x from ex)
  refine ⟨⟨vs, v, .inl d2, hv⟩, fun v' H3 ⟨e3, y⟩ => ?_⟩
  subst e3
  have := y vs (.inl d2)
  rw [hv] at this; cases this
  exact ⟨Ext.refl, q, zv⟩
theorem srcR_lst (d : Rd H a (.lst vs)) (o : r.out a) (z : VRs G r H xs vs) : SrcR G r H (srcItems xs) (Itl K a) := by
  intro r2 H2 h2 e lk q
  obtain ⟨d2, o2⟩ := e.rd d o
  have z2 := z.ex e
  refine ⟨fun i x _ ex => ?_, fun _ => ⟨vs, .inl d2, by show vs.length ≤ xs.length; rw [z.length]; exact Nat.le_refl _⟩⟩
  obtain ⟨v, hv, zv⟩ := z2.get (show xs[i]? = some x from ex)
  refine ⟨⟨vs, v, .inl d2, hv⟩, fun v' H3 ⟨e3, y⟩ => ?_⟩
  subst e3
  have := y vs (.inl d2)
  rw [hv] at this; cases this
  exact ⟨Ext.refl, q, zv⟩
theorem lenIs_some (e : lenIs n k h = true) : ∃ xs, h[n]? = some (.lst xs) ∧ xs.length = k := by
  unfold lenIs at e
  split at e
  · rename_i xs hx; exact ⟨xs, hx, by simpa using e⟩
  · cases e
theorem Rel.lst_at (q : Rel G r h H) (e : r.ix[n]? = some a) (hn : h[n]? = some (.lst xs)) : ∃ vs, H a = some (.lst vs) ∧ VRs G r H xs vs := by
  cases q.ob n a _ e hn with
  | lst h1 h2 => exact ⟨_, h1, h2⟩
theorem srcR_ref (e0 : r.ix[n]? = some a) : SrcR G r H (srcRef n k) (Itl K a) := by
  intro r2 H2 h2 e lk q
  have e2 := pre_get e.pre e0
  refine ⟨fun i x hi ex => ?_, fun hk => ?_⟩
  · simp only [srcRef] at ex
    split at ex
    · rename_i hk
      obtain ⟨xs, hx, hl⟩ := lenIs_some hk
      obtain ⟨vs, d2, z2⟩ := q.lst_at e2 hx
      rw [hx] at ex
      obtain ⟨v, hv, zv⟩ := z2.get ex
      refine ⟨⟨vs, v, .inl (.inl d2), hv⟩, fun v' H3 ⟨e3, y⟩ => ?_⟩
      subst e3
      have := y vs (.inl (.inl d2))
      rw [hv] at this; cases this
      exact ⟨Ext.refl, q, zv⟩
    · cases ex
  · obtain ⟨xs, hx, hl⟩ := lenIs_some (show lenIs n k h2 = true from hk)
    obtain ⟨vs, d2, z2⟩ := q.lst_at e2 hx
    exact ⟨vs, .inl (.inl d2), by show vs.length ≤ k; rw [← hl, z2.length]; exact Nat.le_refl _⟩
def signs (x : Str) : List Val := x.cps.toList.map fun c => .str ⟨#[c]⟩
theorem srcR_str (x : Str) : SrcR G r H (srcItems (signs x)) (Its x) := by
  intro r2 H2 h2 e lk q
  refine ⟨fun i v _ ex => ?_, fun _ => by show x.cps.size ≤ (signs x).length; simp [signs]⟩
  have ex' : (signs x)[i]? = some v := ex
  simp only [signs, List.getElem?_map, Option.map_eq_some_iff] at ex'
  obtain ⟨c, hc, rfl⟩ := ex'
  have hlt := (List.getElem?_eq_some_iff.mp hc).1
  refine ⟨by show i < x.cps.size; simpa using hlt, fun v' H3 ⟨e3, c', hc', hv⟩ => ?_⟩
  subst e3 hv
  have : c = c' := by
    rw [Array.getElem?_toList] at hc
    rw [hc] at hc'; exact Option.some.inj hc'
  subst this
  exact ⟨Ext.refl, q, .str _⟩
def intsV (lo : Int) (n : Nat) : List Val := (List.range n).map fun (i : Nat) => .int (lo + (i : Nat))
theorem intsV_get {lo : Int} {n i : Nat} {x : Val} (e : (intsV lo n)[i]? = some x) : i < n ∧ x = .int (lo + (i : Nat)) := by
  simp only [intsV, List.getElem?_map, Option.map_eq_some_iff] at e
  obtain ⟨c, hc, rfl⟩ := e
  obtain ⟨h1, h2⟩ := List.getElem?_eq_some_iff.mp hc
  simp at h1 h2
  subst h2
  exact ⟨h1, rfl⟩
theorem srcR_range (lo : Int) (n : Nat) : SrcR G r H (srcItems (intsV lo n)) (Itr lo n) := by
  intro r2 H2 h2 e lk q
  refine ⟨fun i v _ ex => ?_, fun _ => by show n ≤ (intsV lo n).length; simp [intsV]⟩
  obtain ⟨h1, rfl⟩ := intsV_get ex
  refine ⟨h1, fun v' H3 ⟨e3, hv⟩ => ?_⟩
  subst e3 hv
  exact ⟨Ext.refl, q, .int _⟩
/-- a value walked -/
def srcOf (v : Val) (h : HM) : Res Src := match v with
  | .tup xs => .ok (srcItems xs) h
  | .ptup xs => .ok (srcItems xs) h
  | .lst xs => .ok (srcItems xs) h
  | .str x => .ok (srcItems (signs x)) h
  | .ref n => match h[n]? with
    | some (.lst xs) => .ok (srcRef n xs.length) h
    | _ => .bad
  | _ => .bad
def iVal (m : EM) : IM := fun l h => (m l h).bind srcOf
variable {tg e : Expr} {m : EM} {pos p : Pos}
theorem mi_val (he : ME X G W e m) : MI X G W tg e (iVal m) := by
  refine ⟨fun pins s σ H R I ⟨r, h, l, q, hl, pp⟩ => ?_⟩
  refine thn (he.run pins s σ H _ I ⟨r, h, l, q, hl, Post.bind pp⟩) fun v s1 ⟨x, H1, I1, rx, ⟨r1, h1, w1, e1, q1, z1, p1⟩⟩ => ?_
  cases z1 with
  | @tup a vs xs d o z =>
    cases rx
    have q2 : R (Itt X.K a) H1 := Post.here q1 (srcR_tup (.inl d) o z) p1
    obtain ⟨its, rv, pl, hz⟩ := I1.tuple (.inl (.inl d))
    refine wpAny_pyIter_tuple (show s1.heap.IsTuple a its.toArray from pl) ?_
    refine ⟨s1.heap.objs.size, [s1.heap.objs.size], _, _, H1, rfl, I1.kept (t' := s1.toks) fun b o e => Heap.get?_push_of_some _ e, turn_tuple a _, ⟨_, Heap.get?_push_size _ rfl, rfl, rfl⟩, fun b hb => ?_, q2⟩
    have e : b = s1.heap.objs.size := by simpa using hb
    subst e
    exact I1.fpOk (Nat.le_refl _) (I1.hok.fresh (Nat.le_refl _))
  | @ptup a ob vs xs d dn o z =>
    cases rx
    have q2 : R (Itt X.K a) H1 := Post.here q1 (srcR_tup (.inr ⟨_, d⟩) o z) p1
    obtain ⟨its, rv, pl, hz⟩ := I1.tuple (.inl (.inr ⟨_, d⟩))
    refine wpAny_pyIter_tuple (show s1.heap.IsTuple a its.toArray from pl) ?_
    refine ⟨s1.heap.objs.size, [s1.heap.objs.size], _, _, H1, rfl, I1.kept (t' := s1.toks) fun b o e => Heap.get?_push_of_some _ e, turn_tuple a _, ⟨_, Heap.get?_push_size _ rfl, rfl, rfl⟩, fun b hb => ?_, q2⟩
    have e : b = s1.heap.objs.size := by simpa using hb
    subst e
    exact I1.fpOk (Nat.le_refl _) (I1.hok.fresh (Nat.le_refl _))
  | @lst a vs xs d o z =>
    cases rx
    have q2 : R (Itl X.K a) H1 := Post.here q1 (srcR_lst (.inl d) o z) p1
    obtain ⟨its, rv, pl, hz⟩ := I1.list (.inl (.inl d))
    refine wpAny_pyIter_list pl.isList ?_
    refine ⟨s1.heap.objs.size, [s1.heap.objs.size], _, _, H1, rfl, I1.kept (t' := s1.toks) fun b o e => Heap.get?_push_of_some _ e, turn_list a _, ⟨_, Heap.get?_push_size _ rfl, rfl, rfl⟩, fun b hb => ?_, q2⟩
    have e : b = s1.heap.objs.size := by simpa using hb
    subst e
    exact I1.fpOk (Nat.le_refl _) (I1.hok.fresh (Nat.le_refl _))
  | @ref n a e0 =>
    cases rx
    simp only [srcOf] at p1
    split at p1
    · rename_i xs hx
      have q2 : R (Itl X.K a) H1 := Post.here q1 (srcR_ref e0) p1
      obtain ⟨vs, d2, z2⟩ := q1.lst_at e0 hx
      obtain ⟨its, rv, pl, hz⟩ := I1.list (.inl (.inl d2))
      refine wpAny_pyIter_list pl.isList ?_
      refine ⟨s1.heap.objs.size, [s1.heap.objs.size], _, _, H1, rfl, I1.kept (t' := s1.toks) fun b o e => Heap.get?_push_of_some _ e, turn_list a _, ⟨_, Heap.get?_push_size _ rfl, rfl, rfl⟩, fun b hb => ?_, q2⟩
      have e : b = s1.heap.objs.size := by simpa using hb
      subst e
      exact I1.fpOk (Nat.le_refl _) (I1.hok.fresh (Nat.le_refl _))
    · exact p1.elim
  | str x =>
    obtain ⟨t, rfl⟩ := rx
    have q2 : R (Its x) H1 := Post.here q1 (srcR_str x) p1
    cases ha : x.cps.all (· < 128)
    · exact wpAny_pyIter_wide ha (pi_one (tk := s1.toks) I1 _ (turn_str _ x t "str_iterator" (.inr rfl)) ⟨_, Heap.get?_push_size _ rfl, rfl, rfl⟩ q2)
    · exact wpAny_pyIter_ascii ha (pi_one (tk := s1.toks) I1 _ (turn_str _ x t "str_ascii_iterator" (.inl rfl)) ⟨_, Heap.get?_push_size _ rfl, rfl, rfl⟩ q2)
  | _ => exact p1.elim
def rng1 (xs : List Val) (h : HM) : Res Src := match xs with
  | [.int j] => if -(2 ^ 62) ≤ j ∧ j < 2 ^ 62 then .ok (srcItems (intsV 0 j.toNat)) h else .bad
  | _ => .bad
def iArgs (f : List Val → HM → Res Src) (m : AM) : IM := fun l h => (m l h).bind f
variable {a1 a2 : Expr} {ma : AM}
theorem mi_range1 (hg : Gl X "range") (hm : X.mg "range" = none) (ha : MA X G W [a1] ma) (hs : starEach [a1] X.env = [(false, eval a1 X.env)] := by rfl) : MI X G W tg (.Call (.Name "range" p) [a1] [] pos) (iArgs rng1 ma) := by
  refine ⟨fun pins s σ H R I ⟨r, h, l, q, hl, pp⟩ => (pi_range1 hg hm ha hs).run pins s σ H R I ⟨r, h, l, q, hl, (Post.bind pp).imp fun vs H1 ⟨r1, h1, w1, e1, q1, z1, p1⟩ => ?_⟩⟩
  dsimp only [rng1] at p1
  split at p1
  · rename_i j
    split at p1
    · rename_i hj
      cases z1 with
      | cons z2 z3 => cases z3; cases z2; exact ⟨j, rfl, hj.1, hj.2, Post.here q1 (srcR_range 0 _) p1⟩
    · exact p1.elim
  · exact p1.elim
/-- a list's items (a tuple's are asked apart) -/
def seqL (v : Val) (h : HM) : Option (List Val) := match v with
  | .lst xs => some xs
  | .ref n => match h[n]? with
    | some (.lst xs) => some xs
    | _ => none
  | _ => none
theorem seqL_ok (q : Rel G r h H) {v : Val} {x : V} (z : VR G r H v x) (e : seqL v h = some xs) : ∃ a vs, x = .ref a ∧ H a = some (.lst vs) ∧ VRs G r H xs vs := by
  cases z with
  | lst d o zz => cases e; exact ⟨_, _, rfl, d, zz⟩
  | ref e0 =>
    simp only [seqL] at e
    split at e
    · rename_i ys hx
      cases e
      obtain ⟨vs, d, zz⟩ := q.lst_at e0 hx
      exact ⟨_, vs, rfl, d, zz⟩
    · cases e
  | _ => cases e
def zipV : List Val → List Val → List Val
  | x :: xs, y :: ys => .tup [x, y] :: zipV xs ys
  | _, _ => []
theorem zipV_get {xs : List Val} : ∀ {ys : List Val} {i : Nat} {x : Val}, (zipV xs ys)[i]? = some x → ∃ a b, xs[i]? = some a ∧ ys[i]? = some b ∧ x = .tup [a, b] := by
  induction xs with
  | nil => intro ys i x e; simp [zipV] at e
  | cons x0 xs ih =>
    intro ys i x e
    cases ys with
    | nil => simp [zipV] at e
    | cons y0 ys =>
      cases i with
      | zero => simp [zipV] at e; exact ⟨_, _, rfl, rfl, e.symm⟩
      | succ i => exact ih (by simpa [zipV] using e)
theorem zipV_len {xs : List Val} : ∀ {ys : List Val}, (zipV xs ys).length = min xs.length ys.length := by
  induction xs with
  | nil => intro ys; simp [zipV]
  | cons x0 xs ih =>
    intro ys
    cases ys with
    | nil => simp [zipV]
    | cons y0 ys => simp only [zipV, List.length_cons, ih]; omega
def tupL : Val → Option (List Val)
  | .tup xs => some xs
  | .ptup xs => some xs
  | _ => none
theorem tupL_ok {v : Val} {x : V} (z : VR G r H v x) (e : tupL v = some xs) : ∃ a vs, x = .ref a ∧ Rd H a (.tup vs) ∧ r.out a ∧ VRs G r H xs vs := by
  cases z with
  | tup d o zz => cases e; exact ⟨_, _, rfl, .inl d, o, zz⟩
  | ptup d dn o zz => cases e; exact ⟨_, _, rfl, .inr ⟨_, d⟩, o, zz⟩
  | _ => cases e
def zip2 (xs : List Val) (h : HM) : Res Src := match xs with
  | [.lst xs, .lst ys] => .ok (srcItems (zipV xs ys)) h
  | [a, b] => (match tupL a, tupL b with
    | some xs, some ys => .ok (srcItems (zipV xs ys)) h
    | _, _ => .bad)
  | _ => .bad
theorem srcR_zipL {b : Addr} {ys : List Val} {ws : List V} (d : Rd H a (.lst vs)) (o : r.out a) (z : VRs G r H xs vs) (d' : Rd H b (.lst ws)) (o' : r.out b) (z' : VRs G r H ys ws) : SrcR G r H (srcItems (zipV xs ys)) (Itz K a b) := by
  intro r2 H2 h2 e lk q
  obtain ⟨d2, o2⟩ := e.rd d o
  obtain ⟨d2', o2'⟩ := e.rd d' o'
  have z2 := z.ex e
  have z2' := z'.ex e
  refine ⟨fun i x _ ex => ?_, fun _ => ⟨vs, ws, .inl d2, .inl d2', ?_⟩⟩
  · obtain ⟨x0, y0, hx0, hy0, rfl⟩ := zipV_get (show (zipV xs ys)[i]? = some x from ex)
    obtain ⟨v, hv, zv⟩ := z2.get hx0
    obtain ⟨v', hv', zv'⟩ := z2'.get hy0
    refine ⟨⟨vs, ws, v, v', .inl d2, .inl d2', hv, hv'⟩, fun u H3 ⟨T, y, y', ev, nT, e3, hy, hy'⟩ => ?_⟩
    subst ev e3
    have t1 := hy vs (.inl d2)
    have t2 := hy' ws (.inl d2')
    rw [hv] at t1; cases t1
    rw [hv'] at t2; cases t2
    exact ⟨ext_new q nT, q.laid nT, .tup upd_same (q.new nT) (.cons (zv.ext (ext_new q nT)) (.cons (zv'.ext (ext_new q nT)) .nil))⟩
  · show vs.length ≤ (zipV xs ys).length ∨ ws.length ≤ (zipV xs ys).length
    rw [zipV_len, z.length, z'.length]; omega
theorem srcR_zipT {b : Addr} {ys : List Val} {ws : List V} (d : Rd H a (.tup vs)) (o : r.out a) (z : VRs G r H xs vs) (d' : Rd H b (.tup ws)) (o' : r.out b) (z' : VRs G r H ys ws) : SrcR G r H (srcItems (zipV xs ys)) (RZ.ItzT K a b) := by
  intro r2 H2 h2 e lk q
  obtain ⟨d2, o2⟩ := e.rd d o
  obtain ⟨d2', o2'⟩ := e.rd d' o'
  have z2 := z.ex e
  have z2' := z'.ex e
  refine ⟨fun i x _ ex => ?_, fun _ => ⟨vs, ws, .inl d2, .inl d2', ?_⟩⟩
  · obtain ⟨x0, y0, hx0, hy0, rfl⟩ := zipV_get (show (zipV xs ys)[i]? = some x from ex)
    obtain ⟨v, hv, zv⟩ := z2.get hx0
    obtain ⟨v', hv', zv'⟩ := z2'.get hy0
    refine ⟨⟨vs, ws, v, v', .inl d2, .inl d2', hv, hv'⟩, fun u H3 ⟨T, y, y', ev, nT, e3, hy, hy'⟩ => ?_⟩
    subst ev e3
    have t1 := hy vs (.inl d2)
    have t2 := hy' ws (.inl d2')
    rw [hv] at t1; cases t1
    rw [hv'] at t2; cases t2
    exact ⟨ext_new q nT, q.laid nT, .tup upd_same (q.new nT) (.cons (zv.ext (ext_new q nT)) (.cons (zv'.ext (ext_new q nT)) .nil))⟩
  · show vs.length ≤ (zipV xs ys).length ∨ ws.length ≤ (zipV xs ys).length
    rw [zipV_len, z.length, z'.length]; omega
theorem mi_zip {elts : List Expr} {kk : Nat} {tpos : Pos} (hg : Gl X "zip") (hm : X.mg "zip" = none) (ha : MA X G W [a1, a2] ma) (hs : starEach [a1, a2] X.env = (false, eval a1 X.env) :: starEach [a2] X.env := by rfl) (hpl : (backTo pos (starEach [a2] X.env)).any (·.1) = false := by rfl) :
    MI X G W (.Tuple elts kk tpos) (.Call (.Name "zip" p) [a1, a2] [] pos) (iArgs zip2 ma) := by
  refine ⟨fun pins s σ H R I ⟨r, h, l, q, hl, pp⟩ => (RZ.pi_zipA hg hm ha hs hpl).run pins s σ H R I ⟨r, h, l, q, hl, (Post.bind pp).imp fun vs H1 ⟨r1, h1, w1, e1, q1, z1, p1⟩ => ?_⟩⟩
  dsimp only [zip2] at p1
  split at p1
  · cases z1 with
    | cons z2 z3 => cases z3 with | cons z4 z5 => cases z5; cases z2 with | lst d o z => cases z4 with | lst d' o' z' => exact ⟨_, _, _, _, rfl, .inl ⟨.inl (.inl d), .inl (.inl d'), Post.here q1 (srcR_zipL (.inl d) o z (.inl d') o' z') p1⟩⟩
  · split at p1
    · rename_i xs ys e1' e2'
      cases z1 with
      | cons z2 z3 => cases z3 with
        | cons z4 z5 =>
          cases z5
          obtain ⟨a, vs, rfl, d, o, z⟩ := tupL_ok z2 e1'
          obtain ⟨b, ws, rfl, d', o', z'⟩ := tupL_ok z4 e2'
          exact ⟨_, _, _, _, rfl, .inr ⟨.inl d, .inl d', Post.here q1 (srcR_zipT d o z d' o' z') p1⟩⟩
    · exact p1.elim
  · exact p1.elim
end
end MM
namespace MM
open PySem L2
def PostF (G : Glob) (r : Ad) (H : Hp) (Q : VK) (E : XK) : Res Val → Prop
  | .ok v h' => ∀ r' H' u, Ext r H r' H' → Rel G r' h' H' → VR G r' H' v u → Q u H'
  | .exc c h' => ∀ r' H' C, Ext r H r' H' → Rel G r' h' H' → G.exc c = some C → E (.ref C) none H'
  | .bad => False
def spM (G : Glob) (n : Nat) (m : FM) : Sp := fun vs H Q E => vs.length = n ∧ ∃ r h xs, Rel G r h H ∧ VRs G r H xs vs ∧ PostF G r H Q E (m xs h)
/-- the function that a body is; n: its names -/
def mF (n : Nat) (b : SM) : FM := fun xs h => match b (xs.map some ++ List.replicate (n - xs.length) none) h with
  | .nx _ h1 => .ok .non h1
  | .rt v h1 => .ok v h1
  | .exc c _ h1 => .exc c h1
  | .bad => .bad
/-- the def at f does what m does -/
def FnM (P : Program) (w : World) (K : PySem.W.Frag) (mg : Str → Option Value) (base : Heap) (G : Glob) (k : Nat) (f : Addr) (n : Nat) (m : FM) : Prop :=
  ∃ fd ps, FnOk P w K mg base (L2.CX P w) k f fd ps (spM G n m) ∧ Binds K fd ps [] ∧ PySem.W.keepIn K (.ref f) = true
section
variable {P : Program} {w : World} {K : PySem.W.Frag} {mg : Str → Option Value} {base : Heap} {G : Glob} {k j : Nat} {f : Addr} {n : Nat} {m m' : FM}
theorem VRs.start {r : Ad} {H : Hp} {xs : List Val} {vs : List V} (z : VRs G r H xs vs) (N : List Str) : LR G r H (xs.map some ++ List.replicate (N.length - xs.length) none) (start N vs) := by
  have hl := z.length
  refine ⟨by simp [L2.start, hl], fun i v e => ?_⟩
  by_cases hi : i < xs.length
  · rw [List.getElem?_append_left (by simpa using hi)] at e
    simp only [List.getElem?_map, Option.map_eq_some_iff] at e
    obtain ⟨x, hx, ex⟩ := e
    cases ex
    obtain ⟨u, hu, zu⟩ := z.get hx
    refine ⟨u, ?_, zu⟩
    unfold L2.start
    rw [List.getElem?_append_left (by simp; omega)]
    simp [hu]
  · rw [List.getElem?_append_right (by simpa using Nat.le_of_not_lt hi)] at e
    rw [List.getElem?_replicate] at e
    split at e <;> cases e
theorem FnM.mono (F : FnM P w K mg base G j f n m) (h : j ≤ k) : FnM P w K mg base G k f n m :=
  let ⟨fd, ps, a, b, c⟩ := F
  ⟨fd, ps, a.mono h, b, c⟩
theorem FnM.imp (F : FnM P w K mg base G k f n m) (h : ∀ r h H xs vs Q E, Rel G r h H → VRs G r H xs vs → xs.length = n → PostF G r H Q E (m' xs h) → PostF G r H Q E (m xs h)) : FnM P w K mg base G k f n m' := by
  obtain ⟨fd, ps, a, b, c⟩ := F
  refine ⟨fd, ps, a.imp fun vs H Q E ⟨hl, r, h1, xs, q, z, p⟩ => ⟨hl, r, h1, xs, q, z, h r h1 H xs vs Q E q z (z.length.trans hl) p⟩, b, c⟩
theorem FnM.of {x qual : Str} {params : Arguments} {body : List Stmt} {scope : Scope} {fd : FuncData} {N ps : List Str} {b : SM} (F : FunD K x qual params body scope [] [] f fd) (S : FnScope N ps scope)
    (hb : ∀ (kV doc pm : Value) (an : Option Addr) (cdv ct : Value) (us : List Value), us.length = ps.length → bindArgs (PySem.W.fnOf x qual params body scope .none kV doc pm an cdv ct) ⟨us, []⟩ = pure (ps.zip us))
    (hbody : ∀ (cdv : Value) (A : Around) (outer : List Env) (s : Shared) (H : Hp) (E : XK), Room k (A.deeper (PyProof.Rows.envOfC qual scope s.heap.objs.size f cdv)) →
      MSs (cxOf (L2.CX P w) P w K mg base N qual scope f cdv A outer s H E) G (fun cls d _ H => E cls d H) body b) : FnM P w K mg base G (k + 1) f ps.length (mF N.length b) := by
  refine ⟨fd, ps, ?_, F.bindsN hb, F.kp⟩
  refine F.ok S (fun vs H Q E h => h.1) (fun cdv A outer s H vs Q E hr h => ⟨_, hbody cdv A outer s H E hr, ?_⟩)
  obtain ⟨hl, r, h1, xs, q, z, p⟩ := h
  refine ⟨r, h1, _, q, z.start N, ?_⟩
  unfold mF at p
  revert p
  cases b (xs.map some ++ List.replicate (N.length - xs.length) none) h1 with
  | nx l h2 => exact fun p r' H' s' e q' _ => p r' H' _ e q' .non
  | rt v h2 => exact fun p => p
  | exc c l h2 => exact fun p r' H' s' C e q' _ g => p r' H' C e q' g
  | bad => exact fun p => p
end
def ALen (m : AM) (n : Nat) : Prop := ∀ l h xs h1, m l h = .ok xs h1 → xs.length = n
theorem al_nil : ALen aNil 0 := fun l h xs h1 e => by cases e; rfl
theorem al_cons {a : EM} {t : AM} {n : Nat} (h : ALen t n) : ALen (aCons a t) (n + 1) := fun l h0 xs h1 e => by
  unfold aCons at e
  cases ea : a l h0 with
  | ok x h2 =>
    rw [ea] at e
    simp only [Res.bind_ok] at e
    cases et : t l h2 with
    | ok ys h3 =>
      rw [et] at e
      simp only [Res.bind_ok] at e
      cases e
      simp [h l h2 ys _ et]
    | exc c h3 => rw [et] at e; cases e
    | bad => rw [et] at e; cases e
  | exc c h2 => rw [ea] at e; cases e
  | bad => rw [ea] at e; cases e
def eCall (m : FM) (as : AM) : EM := fun l h => (as l h).bind m
section
variable {X : Cx} {G : Glob} {W : WX} {r r1 : Ad} {H H1 : Hp} {h : HM} {l : Loc} {s : St} {k n : Nat} {f : Addr} {m : FM} {x : Str} {p pos : Pos} {e : Expr} {es : List Expr} {ma : AM}
theorem PostF.of {Q : VK} {x : Res Val} (q : Post G W r H s (VR G) Q x) : PostF G r H Q (fun c d H => W c d s H) x := by
  cases x with
  | ok v h => exact q
  | exc c h => exact q
  | bad => exact q
theorem me_call (F : FnM X.prog X.w X.K X.mg X.base G k f n m) (hr : Room k X.A) (tk : Takes X W) (hg : Gl X x) (hm : X.mg x = some (.ref f)) (ha : MA X G W (e :: es) ma) (hl : ALen ma n)
    (hdb : (x == ("__debug__" : Str)) = false := by decide) (he : starEach (e :: es) X.env = (false, eval e X.env) :: starEach es X.env := by rfl) (hpl : (backTo pos (starEach es X.env)).any (·.1) = false := by rfl) :
    ME X G W (.Call (.Name x p) (e :: es) [] pos) (eCall m ma) := by
  obtain ⟨fd, ps, F, hb, hk⟩ := F
  refine ⟨fun pins s σ H Q I ⟨r, h, l, q, hl', pp⟩ => (pe_callS (E := WE W) F hr hg hm hk hb (fun σ => passAt tk σ) ha hdb he hpl).run pins s σ H Q I ⟨r, h, l, q, hl', ?_⟩⟩
  unfold eCall at pp
  cases ea : ma l h with
  | ok xs h1 =>
    rw [ea] at pp
    exact fun r' H' vs e' q' z => ⟨z.length.symm.trans (hl _ _ _ _ ea), r', h1, xs, q', z, PostF.of (W := W) (Post.shift e' pp)⟩
  | exc c h1 => rw [ea] at pp; exact pp
  | bad => rw [ea] at pp; exact pp
def isIns (c : Nat) (v : Val) (h : HM) : Bool := match v with
  | .ref n => (match h[n]? with
    | some (.ins c' _) => c' == c
    | _ => false)
  | _ => false
theorem ins_at {c : Nat} {v : Val} {x : V} (q : Rel G r h H) (z : VR G r H v x) (e : isIns c v h = true) : ∃ a C dx fv, x = .ref a ∧ H a = some (.ins C dx fv) ∧ G.cls c = some C ∧ fv.map (·.1) = (G.flds c).take fv.length := by
  unfold isIns at e
  cases z with
  | @ref n a e0 =>
    simp only at e
    split at e
    · rename_i c' vs hn
      have : c' = c := by simpa using e
      subst this
      cases q.ob n a _ e0 hn with
      | ins h1 h2 h3 h4 => exact ⟨a, _, _, _, rfl, h1, h2, h3⟩
    · cases e
  | _ => cases e
def eMeth (c : Nat) (m : FM) (mo : EM) (as : AM) : EM := fun l h => (mo l h).bind fun o h1 => if isIns c o h1 = true then (as l h1).bind fun xs h2 => m (o :: xs) h2 else .bad
theorem lookup_none {f : Str} {fs : List Str} : ∀ {fv : List (Str × V)}, (∀ g ∈ fv.map (·.1), g ≠ f) → fv.lookup f = none
  | [], _ => rfl
  | (g, v) :: r, h => by
    have hg : g ≠ f := h g (by simp)
    have hb : (f == g) = false := beq_eq_false_iff_ne.mpr (Ne.symm hg)
    simp only [List.lookup, hb]
    exact lookup_none (fs := fs) fun g' hg' => h g' (by simp at hg' ⊢; exact .inr hg')
theorem no_fld {c : Nat} {fv : List (Str × V)} {mn : Str} (hn : fv.map (·.1) = (G.flds c).take fv.length) (hf : mn ∉ G.flds c) : fv.lookup mn = none :=
  lookup_none (fs := []) fun g hg e => hf (by
    subst e
    rw [hn] at hg
    exact List.mem_of_mem_take hg)
variable {o : Expr} {mo : EM} {c : Nat} {C : Addr} {mn : Str} {apos : Pos}
theorem run_fnM {pins : List (Addr × Obj)} {s : Shared} {σ : St} {Q : VK} {us : List Value} {vs : List V} {xs : List Val} (F : FnM X.prog X.w X.K X.mg X.base G k f n m) (hr : Room k X.A) (tk : Takes X W) (I : Inv X pins σ H s) (rv : Vals vs us) (q : Rel G r h H) (z : VRs G r H xs vs)
    (hl : xs.length = n) (pp : Post G W r H σ (VR G) Q (m xs h)) : wpAny (model X.prog X.w) X.A (call (.ref f) us) (EP X pins σ Q) X.xe s := by
  obtain ⟨fd, ps, F, hb, hk⟩ := F
  exact run_fnS (E := WE W) F hr hb (passAt tk σ) I rv ⟨z.length.symm.trans hl, r, h, xs, q, z, PostF.of (W := W) pp⟩
theorem me_meth {pl : Sem Bool} (ho : ME X G W o mo) (hc : G.cls c = some C) (cl : Cls X.K C) (hm : Meth X.K C mn f) (hf : mn ∉ G.flds c) (F : FnM X.prog X.w X.K X.mg X.base G k f (n + 1) m) (hr : Room k X.A) (tk : Takes X W) (ha : MA X G W (e :: es) ma) (hl : ALen ma n)
    (hst : starEach (e :: es) X.env = (false, eval e X.env) :: starEach es X.env := by rfl) (hpl : (backTo pos (starEach es X.env)).any (·.1) = false := by rfl)
    (ht : eval (.Call (.Attribute o mn apos) (e :: es) [] pos) X.env = (do
      let ov ← eval o X.env
      standAt apos.atName
      let (f, first) ← holding [ov] (getMethod ov mn pl)
      callWith pos f first (backTo pos (starEach (e :: es) X.env)) (backToKw pos (keywordEach [] X.env))) := by rfl) :
    ME X G W (.Call (.Attribute o mn apos) (e :: es) [] pos) (eMeth c m mo ma) := by
  refine ⟨fun pins s σ H Q I ⟨r, h, l, q, hl', pp⟩ => ?_⟩
  refine PySem.W.methodCall_KW (pl := pl) (thn (ho.run pins s σ H _ I ⟨r, h, l, q, hl', Post.bind pp⟩) fun u s1 ⟨x, H1, I1, rx, ⟨r1, h1, v1, e1, q1, z1, p1⟩⟩ => ?_) ht
  dsimp only at p1
  split at p1
  · rename_i hi
    obtain ⟨a, C', dx, fv, rfl, hH, hC', hn⟩ := ins_at q1 z1 hi
    rw [hc] at hC'; cases hC'
    obtain rfl : u = Value.ref a := rx
    refine getmeth_ok I1 hH cl hm (no_fld hn hf) ?_
    refine PySem.W.callWith_K (first := [.ref a]) (h₀ := X.base) I.ok.mod.kin hm.kp (thn (ha.run pos pins s1 σ H1 (fun vs H2 => ∃ r2 h2 xs, Ext r1 H1 r2 H2 ∧ Rel G r2 h2 H2 ∧ VRs G r2 H2 xs vs ∧ xs.length = n ∧ Post G W r2 H2 σ (VR G) Q (m (v1 :: xs) h2)) I1 ⟨r1, h1, l, q1, hl'.ext e1, ?_⟩) fun us s2 ⟨vs, H2, I2, rr, r2, h2, xs, e2, q2, z2, hl2, p2⟩ => ⟨I2.kIn, ?_⟩) hst hpl
    · cases ea : ma l h1 with
      | ok xs h2 => rw [ea] at p1; exact fun r' H' vs e' q' z => ⟨r', h2, xs, e', q', z, hl _ _ _ _ ea, Post.shift e' p1⟩
      | exc c h2 => rw [ea] at p1; exact p1
      | bad => rw [ea] at p1; exact p1
    · exact run_fnM (us := .ref a :: us) (vs := .ref a :: vs) F hr tk I2 (.cons rfl rr) q2 (.cons (z1.ext e2) z2) (by simp [hl2]) p2
  · exact p1.elim
theorem me_meth0 {pl : Sem Bool} (ho : ME X G W o mo) (hc : G.cls c = some C) (cl : Cls X.K C) (hm : Meth X.K C mn f) (hf : mn ∉ G.flds c) (F : FnM X.prog X.w X.K X.mg X.base G k f 1 m) (hr : Room k X.A) (tk : Takes X W)
    (ht : eval (.Call (.Attribute o mn apos) [] [] pos) X.env = (do
      let ov ← eval o X.env
      standAt apos.atName
      let (f, first) ← holding [ov] (getMethod ov mn pl)
      callWith pos f first (backTo pos (starEach [] X.env)) (backToKw pos (keywordEach [] X.env))) := by rfl) :
    ME X G W (.Call (.Attribute o mn apos) [] [] pos) (eMeth c m mo aNil) := by
  refine ⟨fun pins s σ H Q I ⟨r, h, l, q, hl', pp⟩ => ?_⟩
  refine PySem.W.methodCall_KW (pl := pl) (thn (ho.run pins s σ H _ I ⟨r, h, l, q, hl', Post.bind pp⟩) fun u s1 ⟨x, H1, I1, rx, ⟨r1, h1, v1, e1, q1, z1, p1⟩⟩ => ?_) ht
  dsimp only at p1
  split at p1
  · rename_i hi
    obtain ⟨a, C', dx, fv, rfl, hH, hC', hn⟩ := ins_at q1 z1 hi
    rw [hc] at hC'; cases hC'
    obtain rfl : u = Value.ref a := rx
    refine getmeth_ok I1 hH cl hm (no_fld hn hf) ?_
    exact PySem.W.callWith_K0 (first := [.ref a]) I1.kIn hm.kp (run_fnM (us := [.ref a]) (vs := [.ref a]) F hr tk I1 (.cons rfl .nil) q1 (.cons z1 .nil) rfl p1)
  · exact p1.elim
def eMake (c : Nat) (m : FM) (as : AM) : EM := fun l h => (as l h).bind fun xs h1 => (m (.ref h1.length :: xs) (h1 ++ [.ins c []])).bind fun v h2 => match v with
  | .non => .ok (.ref h1.length) h2
  | _ => .bad
theorem me_make {c : Nat} {C : Addr} (M : Mk X.K C f) (hc : G.cls c = some C) (F : FnM X.prog X.w X.K X.mg X.base G k f (n + 1) m) (hr : Room (k + 1) X.A) (tk : Takes X W) (hg : Gl X x) (hm : X.mg x = some (.ref C)) (ha : MA X G W (e :: es) ma) (hl : ALen ma n) (nx : ∀ xs h c' h', m xs h ≠ .exc c' h')
    (hdb : (x == ("__debug__" : Str)) = false := by decide) (he : starEach (e :: es) X.env = (false, eval e X.env) :: starEach es X.env := by rfl) (hpl : (backTo pos (starEach es X.env)).any (·.1) = false := by rfl) :
    ME X G W (.Call (.Name x p) (e :: es) [] pos) (eMake c m ma) := by
  obtain ⟨fd, ps, F, hb, hk⟩ := F
  refine ⟨fun pins s σ H Q I ⟨r, h, l, q, hl', pp⟩ => (pe_make (E := E0) M F hr hg hm hb .nil passL ha hdb he hpl).run pins s σ H Q I ⟨r, h, l, q, hl', ?_⟩⟩
  unfold eMake at pp
  cases ea : ma l h with
  | ok xs h1 =>
    rw [ea] at pp
    intro r' H' vs e' q' z y dx ny ndx nxy
    simp only [Res.bind_ok] at pp
    have q2 := q'.laid (o := .own y) ndx
    have x2 := ext_new (o := .own y) q' ndx
    have ny2 : (upd H' dx (.own y)) y = none := by rw [upd_ne (Ne.symm nxy)]; exact ny
    have x3 := ext_alloc (o := .ins C dx []) q2 ny2
    have q3 : Rel G (r'.push y) (h1 ++ [.ins c []]) (upd (upd H' dx (.own y)) y (.ins C dx [])) := q2.alloc ny2 (.ins upd_same hc (by simp) .nil)
    have ex := (e'.trans x2).trans x3
    refine ⟨?_, r'.push y, h1 ++ [.ins c []], .ref h1.length :: xs, q3, .cons (.ref ?_) (by rw [List.append_nil]; exact z.ext (x2.trans x3)), ?_⟩
    · have := hl _ _ _ _ ea
      simp [← z.length, this]
    · rw [← q'.len]; exact get_last
    · cases em : m (.ref h1.length :: xs) (h1 ++ [.ins c []]) with
      | ok v h2 =>
        rw [em] at pp
        intro r4 H4 u e4 q4 z4
        simp only [Res.bind_ok] at pp
        cases z4 with
        | non =>
          refine ⟨rfl, pp r4 H4 _ (ex.trans e4) q4 (.ref ?_)⟩
          refine pre_get e4.pre ?_
          rw [← q'.len]; exact get_last
        | _ => exact pp.elim
      | exc c' h' => exact absurd em (nx _ _ _ _)
      | bad => rw [em] at pp; exact pp
  | exc c h1 => rw [ea] at pp; exact pp
  | bad => rw [ea] at pp; exact pp
def getF (c i : Nat) (v : Val) (h : HM) : Res Val := match v with
  | .ref n => (match h[n]? with
    | some (.ins c' vs) => if c' = c then (match vs[i]? with
      | some y => .ok y h
      | none => .bad) else .bad
    | _ => .bad)
  | _ => .bad
theorem lookup_at {fs : List Str} (nd : fs.Nodup) {i : Nat} {fn : Str} (hi : fs[i]? = some fn) : ∀ {fv : List (Str × V)}, fv.map (·.1) = fs.take fv.length → ∀ {y : V}, (fv.map (·.2))[i]? = some y → fv.lookup fn = some y := by
  intro fv hf y hy
  induction fv generalizing fs i with
  | nil => simp at hy
  | cons p fv ih =>
    cases fs with
    | nil => simp at hi
    | cons g fs =>
      simp only [List.map_cons, List.length_cons, List.take_succ_cons, List.cons.injEq] at hf
      cases i with
      | zero =>
        simp at hi hy
        subst hi hy
        obtain ⟨a, b⟩ := p
        simp only at hf
        simp [List.lookup, hf.1]
      | succ i =>
        have hne : fn ≠ p.1 := by
          rw [hf.1]
          intro e
          subst e
          exact (List.nodup_cons.mp nd).1 (List.mem_of_getElem? (by simpa using hi))
        obtain ⟨a, b⟩ := p
        have hb : (fn == a) = false := beq_eq_false_iff_ne.mpr hne
        simp only [List.lookup, hb]
        exact ih (List.nodup_cons.mp nd).2 (by simpa using hi) hf.2 (by simpa using hy)
def eFld (c i : Nat) (mo : EM) : EM := fun l h => (mo l h).bind (getF c i)
theorem me_fld {c i : Nat} {C : Addr} {fn : Str} (ho : ME X G W o mo) (hc : G.cls c = some C) (cl : Cls X.K C) (na : NoAttr X.K C fn) (nd : (G.flds c).Nodup) (hi : (G.flds c)[i]? = some fn) (hb : attributeBase o fn X.env (eval o X.env) = eval o X.env := by rfl) : ME X G W (.Attribute o fn pos) (eFld c i mo) := by
  refine ⟨fun pins s σ H Q I ⟨r, h, l, q, hl', pp⟩ => (pe_fld ho hb).run pins s σ H Q I ⟨r, h, l, q, hl', (Post.bind pp).imp fun x H1 ⟨r1, h1, v1, e1, q1, z1, p1⟩ => ?_⟩⟩
  unfold getF at p1
  cases z1 with
  | @ref n a e0 =>
    simp only at p1
    split at p1
    · rename_i c' vs hn
      split at p1
      · rename_i hcc
        subst hcc
        split at p1
        · rename_i y hy
          cases q1.ob n a _ e0 hn with
          | ins h1 h2 h3 h4 =>
            rw [hc] at h2; cases h2
            obtain ⟨u, hu, zu⟩ := h4.get hy
            exact ⟨a, C, _, _, u, rfl, h1, cl, na, lookup_at nd hi h3 hu, Post.here q1 zu p1⟩
        · exact p1.elim
      · exact p1.elim
    · exact p1.elim
  | _ => exact p1.elim
theorem putF_at {fs : List Str} (nd : fs.Nodup) {i : Nat} {fn : Str} (hi : fs[i]? = some fn) (y : V) : ∀ {fv : List (Str × V)}, fv.map (·.1) = fs.take fv.length → i ≤ fv.length →
    ((putF fn y fv).map (·.1) = fs.take (putF fn y fv).length) ∧ (putF fn y fv).map (·.2) = if i < fv.length then (fv.map (·.2)).set i y else fv.map (·.2) ++ [y] := by
  intro fv hf hle
  induction fv generalizing fs i with
  | nil =>
    have : i = 0 := by simpa using hle
    subst this
    cases fs with
    | nil => simp at hi
    | cons g fs => simp at hi; subst hi; simp [putF]
  | cons p fv ih =>
    obtain ⟨a, b⟩ := p
    cases fs with
    | nil => simp at hi
    | cons g fs =>
      simp only [List.map_cons, List.length_cons, List.take_succ_cons, List.cons.injEq] at hf
      cases i with
      | zero =>
        simp at hi
        subst hi
        simp [putF, hf.1, hf.2]
      | succ i =>
        obtain ⟨hf1, hf2⟩ := hf
        have hne : ¬ a = fn := by
          rw [hf1]
          intro e
          subst e
          exact (List.nodup_cons.mp nd).1 (List.mem_of_getElem? (by simpa using hi))
        obtain ⟨j1, j2⟩ := ih (List.nodup_cons.mp nd).2 (by simpa using hi) hf2 (by simpa using hle)
        have e0 : putF fn y ((a, b) :: fv) = (a, b) :: putF fn y fv := by
          show (if a = fn then (a, y) :: fv else (a, b) :: putF fn y fv) = _
          rw [if_neg hne]
        rw [e0]
        refine ⟨by simp only [List.map_cons, List.length_cons, List.take_succ_cons, j1, hf1], ?_⟩
        simp only [List.map_cons, List.length_cons, j2]
        by_cases hlt : i < fv.length
        · simp [hlt]
        · simp [hlt]
def setF (c i : Nat) (v y : Val) (h : HM) : Option HM := match v with
  | .ref n => (match h[n]? with
    | some (.ins c' vs) => if c' = c ∧ i ≤ vs.length ∧ vs.length < 1000 then some (h.set n (.ins c (if i < vs.length then vs.set i y else vs ++ [y]))) else none
    | _ => none)
  | _ => none
def sFldM (c i : Nat) (mo mv : EM) : SM := fun l h => (mv l h).thn l fun y h1 => (mo l h1).thn l fun o h2 => match setF c i o y h2 with
  | some h3 => .nx l h3
  | none => .bad
theorem ms_fld {c i : Nat} {C : Addr} {fn : Str} {pos' : Pos} {v : Expr} {mv : EM} (ho : ME X G W o mo) (hv : ME X G W v mv) (hc : G.cls c = some C) (cl : Cls X.K C) (na : NoAttr X.K C fn) (nd : (G.flds c).Nodup) (hi : (G.flds c)[i]? = some fn) (hs : swapsWith v (some (.Attribute o fn pos')) pos.line X.env = pure false := by rfl) :
    MS X G W (.Assign [.Attribute o fn pos'] v pos) (sFldM c i mo mv) := by
  refine ⟨fun pins s σ H D I ⟨r, h, l, q, hl, p⟩ => (ps_fld ho hv hs).run pins s σ H D I ⟨r, h, l, q, hl, (Post.thn hl p).imp fun y H1 ⟨r1, h1, v1, e1, q1, z1, p1⟩ => ?_⟩⟩
  refine ⟨r1, h1, l, q1, hl.ext e1, (Post.thn (hl.ext e1) p1).imp fun x H2 ⟨r2, h2, v2, e2, q2, z2, p2⟩ => ?_⟩
  have zy := z1.ext e2
  unfold setF at p2
  cases z2 with
  | @ref n a e0 =>
    simp only at p2
    cases hn : h2[n]? with
    | none => rw [hn] at p2; exact p2.elim
    | some ob =>
      rw [hn] at p2
      cases ob with
      | ins c' vs =>
        simp only at p2
        split at p2
        · rename_i h3 hcond
          split at hcond
          · rename_i hcc
            cases hcond
            obtain ⟨hc1, hc2, hc3⟩ := hcc
            subst hc1
            cases q2.ob n a _ e0 hn with
            | @ins _ C' dx _ fv g1 g2 g3 g4 =>
              rw [hc] at g2; cases g2
              have nf : ∀ o u, H2 a ≠ some (.frz o u) := fun o u z => by rw [g1] at z; cases z
              have hlen : vs.length = fv.length := by simpa using g4.length
              obtain ⟨k1, k2⟩ := putF_at nd hi y g3 (by omega)
              refine ⟨a, C, _, _, rfl, g1, cl, na, by omega, ?_⟩
              refine p2 r2 _ σ (ext_write q2 e0 nf) (q2.write e0 nf (.ins upd_same hc k1 ?_)) ((hl.ext e1).ext e2 |>.ext (ext_write q2 e0 nf))
              rw [k2, hlen]
              have g4' := g4.ext (ext_write q2 (o := .ins C dx (putF fn y fv)) e0 nf)
              have zy' := zy.ext (ext_write q2 (o := .ins C dx (putF fn y fv)) e0 nf)
              split
              · exact g4'.set i zy'
              · exact g4'.append (.cons zy' .nil)
          · cases hcond
        · exact p2.elim
      | _ => exact p2.elim
  | _ => exact p2.elim
def sRaise (c : Nat) : SM := fun l h => .exc c l h
theorem ms_raise {c : Nat} {C : Addr} {B newId initId : String} {bmB : List Value} {mt : Str} {j : Nat} {p2 pos' : Pos} (hc : X.calm = true) (tk : Takes X W) (F : ExcBaseFacts B newId initId bmB) (qx : PySem.W.excIn X.K C bmB newId = true) (he : G.exc c = some C) (gC : X.mg x = some (.ref C)) (kC : PySem.W.keepIn X.K (.ref C) = true) (rz : Raises X (.ref C)) (hg : Gl X x)
    (hdb : (x == ("__debug__" : Str)) = false := by decide) : MS X G W (.Raise (some (.Call (.Name x p) [.Constant (.str mt) j p2] [] pos)) none pos') (sRaise c) :=
  ⟨fun pins s σ H D I ⟨r, h, l, q, hl, p⟩ => (ps_raise hc tk (pmk_own F qx gC kC rz hg hdb)).run pins s σ H D I (p r H σ C Ext.refl q hl he)⟩
end
end MM
namespace MM
open PySem L2
section
variable {X : Cx} {G : Glob} {W : WX} {r r1 r2 : Ad} {H H1 H2 : Hp} {h h1 : HM} {l : Loc} {s : St} {K : PySem.W.Frag} {a : Addr} {xs : List Val} {vs : List V} {n k : Nat}
def vAdd (a b : Val) (h : HM) : Res Val := match a, b with
  | .int i, .int j => .ok (.int (i + j)) h
  | .str x, .str y => if x.length + y.length ≤ sizeLine then .ok (.str (x ++ y)) h else .bad
  | .tup xs, .tup ys => if xs.length + ys.length ≤ sizeLine then .ok (.tup (xs ++ ys)) h else .bad
  | .ptup xs, .tup ys => if xs.length + ys.length ≤ sizeLine then .ok (if xs.isEmpty then .tup ys else if ys.isEmpty then .ptup xs else .tup (xs ++ ys)) h else .bad
  | .tup xs, .ptup ys => if xs.length + ys.length ≤ sizeLine then .ok (if xs.isEmpty then .ptup ys else if ys.isEmpty then .tup xs else .tup (xs ++ ys)) h else .bad
  | .ptup xs, .ptup ys => if xs.length + ys.length ≤ sizeLine then .ok (if xs.isEmpty then .ptup ys else if ys.isEmpty then .ptup xs else .tup (xs ++ ys)) h else .bad
  | a, b => match seqL a h, seqL b h with
    | some xs, some ys => if xs.length + ys.length ≤ sizeLine then .ok (.lst (xs ++ ys)) h else .bad
    | _, _ => .bad
theorem VRs.nil_iff (z : VRs G r H xs vs) : xs = [] ↔ vs = [] := by cases z <;> simp
theorem post_cat {Q : VK} {ys : List Val} {ws : List V} (q : Rel G r h H) (z : VRs G r H xs vs) (z' : VRs G r H ys ws) (p : Post G W r H s (VR G) Q (.ok (.lst (xs ++ ys)) h)) : ∀ p, H p = none → Q (.ref p) (upd H p (.lst (vs ++ ws))) := fun a n =>
  p r _ _ (ext_new q n) (q.laid n) (.lst upd_same (q.new n) ((z.append z').ext (ext_new q n)))
theorem om_add : OpM X G (binaryOp .Add) vAdd := by
  intro W pins s σ H r h a b x y v u Q I q za zb rx ry p
  have hl : ∀ xs ys, seqL a h = some xs → seqL b h = some ys → Post G W r H σ (VR G) Q (if xs.length + ys.length ≤ sizeLine then .ok (.lst (xs ++ ys)) h else .bad) → wpAny (model X.prog X.w) X.A (binaryOp .Add v u) (EP X pins σ Q) X.xe s := by
    intro xs ys ea eb p
    obtain ⟨l, vs, rfl, d, z⟩ := seqL_ok q za ea
    obtain ⟨l2, ws, rfl, d2, z2⟩ := seqL_ok q zb eb
    split at p
    · rename_i hz
      exact op_cat pins s σ H _ _ v u Q I rx ry ⟨l, l2, vs, ws, rfl, rfl, d, d2, by rw [← z.length, ← z2.length]; exact hz, post_cat q z z2 p⟩
    · exact p.elim
  have hl2 : Post G W r H σ (VR G) Q (match seqL a h, seqL b h with | some xs, some ys => if xs.length + ys.length ≤ sizeLine then .ok (.lst (xs ++ ys)) h else .bad | _, _ => .bad) → wpAny (model X.prog X.w) X.A (binaryOp .Add v u) (EP X pins σ Q) X.xe s := by
    intro p
    cases ea : seqL a h with
    | none => rw [ea] at p; exact p.elim
    | some xs =>
      cases eb : seqL b h with
      | none => rw [ea, eb] at p; exact p.elim
      | some ys => rw [ea, eb] at p; exact hl xs ys ea eb p
  have ht : ∀ {vx vy : Val} {xs ys : List Val}, VR G r H vx x → VR G r H vy y → tupL vx = some xs → tupL vy = some ys → Post G W r H σ (VR G) Q (if xs.length + ys.length ≤ sizeLine then .ok (if xs.isEmpty then vy else if ys.isEmpty then vx else .tup (xs ++ ys)) h else .bad) → wpAny (model X.prog X.w) X.A (binaryOp .Add v u) (EP X pins σ Q) X.xe s := by
    intro vx vy xs ys zx zy ex ey p
    split at p
    · rename_i hz
      obtain ⟨a, vs, rfl, d, o, z⟩ := tupL_ok zx ex
      obtain ⟨b, ws, rfl, d2, o2, z2⟩ := tupL_ok zy ey
      refine op_catA pins s σ H _ _ v u Q I rx ry ⟨a, b, vs, ws, rfl, rfl, .inl d, .inl d2, by rw [← z.length, ← z2.length]; exact hz, fun e => ?_, fun e1 e => ?_, fun e1 e2 a' n => ?_⟩
      · have h1 := z.nil_iff.mpr e
        subst h1
        exact Post.here q zy p
      · have h1 : xs.isEmpty = false := by have : xs ≠ [] := fun h => e1 (z.nil_iff.mp h); cases xs <;> simp_all
        have h2 := z2.nil_iff.mpr e
        subst h2
        rw [h1] at p
        exact Post.here q zx p
      · have h1 : xs.isEmpty = false := by have : xs ≠ [] := fun h => e1 (z.nil_iff.mp h); cases xs <;> simp_all
        have h2 : ys.isEmpty = false := by have : ys ≠ [] := fun h => e2 (z2.nil_iff.mp h); cases ys <;> simp_all
        rw [h1, h2] at p
        exact p r _ _ (ext_new q n) (q.laid n) (.tup upd_same (q.new n) ((z.append z2).ext (ext_new q n)))
    · exact p.elim
  cases za with
  | @ptup a ob vs xs d dn o z =>
    cases zb with
    | @tup b ws ys d2 o2 z2 => exact ht (.ptup d dn o z) (.tup d2 o2 z2) rfl rfl p
    | @ptup b ob2 ws ys d2 dn2 o2 z2 => exact ht (.ptup d dn o z) (.ptup d2 dn2 o2 z2) rfl rfl p
    | _ => exact hl2 p
  | int i =>
    cases zb with
    | int j => exact op_add pins s σ H _ _ v u Q I rx ry ⟨i, j, rfl, rfl, Post.here q (.int _) p⟩
    | _ => exact hl2 p
  | str i =>
    cases zb with
    | str j =>
      dsimp only [vAdd] at p
      split at p
      · rename_i hz
        exact op_add_str pins s σ H _ _ v u Q I rx ry ⟨i, j, rfl, rfl, hz, Post.here q (.str _) p⟩
      · exact p.elim
    | _ => exact hl2 p
  | @tup a vs xs d o z =>
    cases zb with
    | @tup b ws ys d2 o2 z2 =>
      dsimp only [vAdd] at p
      split at p
      · rename_i hz
        refine op_catA pins s σ H _ _ v u Q I rx ry ⟨a, b, vs, ws, rfl, rfl, .inl (.inl d), .inl (.inl d2), by rw [← z.length, ← z2.length]; exact hz, fun e => ?_, fun _ e => ?_, fun _ _ a' n => ?_⟩
        · have := z.nil_iff.mpr e
          subst this
          exact Post.here q (.tup d2 o2 z2) p
        · have := z2.nil_iff.mpr e
          subst this
          rw [List.append_nil] at p
          exact Post.here q (.tup d o z) p
        · exact p r _ _ (ext_new q n) (q.laid n) (.tup upd_same (q.new n) ((z.append z2).ext (ext_new q n)))
      · exact p.elim
    | @ptup b ob2 ws ys d2 dn2 o2 z2 => exact ht (.tup d o z) (.ptup d2 dn2 o2 z2) rfl rfl p
    | _ => exact hl2 p
  | _ => exact hl2 p
def vSub (a b : Val) (h : HM) : Res Val := match a, b with
  | .int i, .int j => .ok (.int (i - j)) h
  | _, _ => .bad
def vMod (a b : Val) (h : HM) : Res Val := match a, b with
  | .int i, .int j => if 0 < j then .ok (.int (i % j)) h else .bad
  | _, _ => .bad
def vFdiv (a b : Val) (h : HM) : Res Val := match a, b with
  | .int i, .int j => if 0 < j ∧ j < 1073741824 then .ok (.int (i / j)) h else .bad
  | _, _ => .bad
def vMul (a b : Val) (h : HM) : Res Val := match a, b with
  | .int i, .int j => if (-(2 ^ 64) < i ∧ i < 2 ^ 64) ∨ (-(2 ^ 64) < j ∧ j < 2 ^ 64) then .ok (.int (i * j)) h else .bad
  | .str x, .int j => if x.length ≤ 16 ∧ -(2 ^ 63) ≤ j ∧ j ≤ ((1048576 : Nat) : Int) then .ok (.str (Txt.mul x j)) h else .bad
  | a, .int j => match seqL a h with
    | some xs => if -(2 ^ 63) ≤ j ∧ j < 2 ^ 63 ∧ xs.length * j.toNat ≤ sizeLine then .ok (.lst (List.replicate j.toNat xs).flatten) h else .bad
    | none => .bad
  | _, _ => .bad
theorem om_ii {f : Value → Value → Sem Value} {g : VOp} {C : Int → Int → Prop} {o : Int → Int → V} {o' : Int → Int → Val} (ho : OpR X f (rI C o)) (hv : ∀ i j r H, VR G r H (o' i j) (o i j))
    (hg : ∀ a b h, (∃ i j, a = .int i ∧ b = .int j ∧ ((C i j ∧ g a b h = .ok (o' i j) h) ∨ g a b h = .bad)) ∨ g a b h = .bad) : OpM X G f g := by
  intro W pins s σ H r h a b x y v u Q I q za zb rx ry p
  rcases hg a b h with ⟨i, j, rfl, rfl, ⟨hc, e⟩ | e⟩ | e
  · rw [e] at p
    cases za
    cases zb
    exact ho pins s σ H _ _ v u Q I rx ry ⟨i, j, rfl, rfl, hc, Post.here q (hv i j r H) p⟩
  · rw [e] at p; exact p.elim
  · rw [e] at p; exact p.elim
theorem rI_of {f : Value → Value → Sem Value} {o : Int → Int → V} (ho : OpR X f (rI0 o)) : OpR X f (rI (fun _ _ => True) o) := fun pins s σ H x y v u Q I rx ry ⟨i, j, ex, ey, _, q⟩ => ho pins s σ H x y v u Q I rx ry ⟨i, j, ex, ey, q⟩
theorem om_sub : OpM X G (binaryOp .Sub) vSub := om_ii (rI_of op_sub) (o' := fun i j => .int (i - j)) (fun _ _ _ _ => .int _) fun a b h => by
  cases a with
  | int i => cases b with
    | int j => exact .inl ⟨i, j, rfl, rfl, .inl ⟨trivial, rfl⟩⟩
    | _ => exact .inr rfl
  | _ => exact .inr rfl
theorem om_mod : OpM X G (binaryOp .Mod) vMod := om_ii op_mod (o' := fun i j => .int (i % j)) (fun _ _ _ _ => .int _) fun a b h => by
  cases a with
  | int i => cases b with
    | int j =>
      refine .inl ⟨i, j, rfl, rfl, ?_⟩
      by_cases hj : 0 < j
      · exact .inl ⟨hj, if_pos hj⟩
      · exact .inr (if_neg hj)
    | _ => exact .inr rfl
  | _ => exact .inr rfl
theorem om_fdiv : OpM X G (binaryOp .FloorDiv) vFdiv := om_ii op_fdiv (o' := fun i j => .int (i / j)) (fun _ _ _ _ => .int _) fun a b h => by
  cases a with
  | int i => cases b with
    | int j =>
      refine .inl ⟨i, j, rfl, rfl, ?_⟩
      by_cases hj : 0 < j ∧ j < 1073741824
      · exact .inl ⟨hj, if_pos hj⟩
      · exact .inr (if_neg hj)
    | _ => exact .inr rfl
  | _ => exact .inr rfl
theorem om_mul : OpM X G (binaryOp .Mult) vMul := by
  intro W pins s σ H r h a b x y v u Q I q za zb rx ry p
  cases zb with
  | int j =>
    have hl : Post G W r H σ (VR G) Q (match seqL a h with | some xs => if -(2 ^ 63) ≤ j ∧ j < 2 ^ 63 ∧ xs.length * j.toNat ≤ sizeLine then .ok (.lst (List.replicate j.toNat xs).flatten) h else .bad | none => .bad) → wpAny (model X.prog X.w) X.A (binaryOp .Mult v u) (EP X pins σ Q) X.xe s := by
      intro p
      cases ea : seqL a h with
      | none => rw [ea] at p; exact p.elim
      | some xs =>
        rw [ea] at p
        dsimp only at p
        split at p
        · rename_i hz
          obtain ⟨l, vs, rfl, d, z⟩ := seqL_ok q za ea
          refine op_rep pins s σ H _ _ v u Q I rx ry ⟨l, j, vs, rfl, rfl, d, hz.1, hz.2.1, by rw [← z.length]; exact hz.2.2, fun a' n => ?_⟩
          have zz : VRs G r H (List.replicate j.toNat xs).flatten (List.replicate j.toNat vs).flatten := by
            generalize j.toNat = k
            induction k with
            | zero => exact .nil
            | succ k ih => rw [List.replicate_succ, List.replicate_succ, List.flatten_cons, List.flatten_cons]; exact z.append ih
          exact p r _ _ (ext_new q n) (q.laid n) (.lst upd_same (q.new n) (zz.ext (ext_new q n)))
        · exact p.elim
    cases za with
    | int i =>
      dsimp only [vMul] at p
      split at p
      · rename_i hc
        exact op_mul pins s σ H _ _ v u Q I rx ry ⟨i, j, rfl, rfl, hc, Post.here q (.int _) p⟩
      · exact p.elim
    | str i =>
      dsimp only [vMul] at p
      split at p
      · rename_i hc
        obtain ⟨t, rfl⟩ := rx
        obtain ⟨t', rfl⟩ := ry
        exact PySem.W.KXi.mul (n := i.length) rfl hc.1 hc.2.1 hc.2.2 fun t' k _ _ => ⟨.str (Txt.mul i j), H, I.tok _, ⟨_, rfl⟩, Post.here q (.str _) p⟩
      · exact p.elim
    | _ => exact hl p
  | _ => cases za <;> exact p.elim
def vLt (a b : Val) (h : HM) : Res Val := match a, b with
  | .int i, .int j => .ok (.bl (decide (i < j))) h
  | _, _ => .bad
def vLe (a b : Val) (h : HM) : Res Val := match a, b with
  | .int i, .int j => .ok (.bl (decide (i ≤ j))) h
  | _, _ => .bad
def vGt (a b : Val) (h : HM) : Res Val := match a, b with
  | .int i, .int j => .ok (.bl (decide (j < i))) h
  | _, _ => .bad
def vGe (a b : Val) (h : HM) : Res Val := match a, b with
  | .int i, .int j => .ok (.bl (decide (j ≤ i))) h
  | _, _ => .bad
theorem om_le : OpM X G (compareOp .LtE) vLe := om_ii (rI_of op_le) (o' := fun i j => .bl (decide (i ≤ j))) (fun _ _ _ _ => .bl _) fun a b h => by
  cases a with
  | int i => cases b with
    | int j => exact .inl ⟨i, j, rfl, rfl, .inl ⟨trivial, rfl⟩⟩
    | _ => exact .inr rfl
  | _ => exact .inr rfl
theorem om_gt : OpM X G (compareOp .Gt) vGt := om_ii (rI_of op_gt) (o' := fun i j => .bl (decide (j < i))) (fun _ _ _ _ => .bl _) fun a b h => by
  cases a with
  | int i => cases b with
    | int j => exact .inl ⟨i, j, rfl, rfl, .inl ⟨trivial, rfl⟩⟩
    | _ => exact .inr rfl
  | _ => exact .inr rfl
theorem om_ge : OpM X G (compareOp .GtE) vGe := om_ii (rI_of op_ge) (o' := fun i j => .bl (decide (j ≤ i))) (fun _ _ _ _ => .bl _) fun a b h => by
  cases a with
  | int i => cases b with
    | int j => exact .inl ⟨i, j, rfl, rfl, .inl ⟨trivial, rfl⟩⟩
    | _ => exact .inr rfl
  | _ => exact .inr rfl
theorem om_lt : OpM X G (compareOp .Lt) vLt := om_ii (rI_of op_lt) (o' := fun i j => .bl (decide (i < j))) (fun _ _ _ _ => .bl _) fun a b h => by
  cases a with
  | int i => cases b with
    | int j => exact .inl ⟨i, j, rfl, rfl, .inl ⟨trivial, rfl⟩⟩
    | _ => exact .inr rfl
  | _ => exact .inr rfl
end
end MM
namespace MM
open PySem L2
mutual
def datF : Val → Option PyData
  | .non => some .none
  | .bl b => some (.bool b)
  | .int i => some (.int i)
  | .str x => some (.str x)
  | .tup xs => (datFs xs).map .tuple
  | .lst xs => (datFs xs).map .list
  | .ptup xs => (datFs xs).map .tuple
  | _ => none
def datFs : List Val → Option (List PyData)
  | [] => some []
  | x :: xs => match datF x, datFs xs with
    | some d, some ds => some (d :: ds)
    | _, _ => none
end
def dat (v : Val) (h : HM) : Option PyData := match v with
  | .ref n => (match h[n]? with
    | some (.lst xs) => (datFs xs).map .list
    | _ => none)
  | v => datF v
section
variable {X : Cx} {G : Glob} {W : WX} {r r1 r2 : Ad} {H H1 H2 : Hp} {h h1 : HM} {l : Loc} {s : St} {K : PySem.W.Frag} {a : Addr} {xs : List Val} {vs : List V} {n k : Nat}
mutual
theorem datF_ok {v : Val} {x : V} {d : PyData} (z : VR G r H v x) (e : datF v = some d) : Dp K H x d := by
  match v, x, z with
  | _, _, .non => cases e; exact .non
  | _, _, .bl b => cases e; exact .bl b
  | _, _, .int i => cases e; exact .int i
  | _, _, .str x => cases e; exact .str x
  | .tup xs, _, .tup dd o q =>
    simp only [datF, Option.map_eq_some_iff] at e
    obtain ⟨ds, e1, rfl⟩ := e
    exact .tup (.inl (.inl dd)) (datFs_ok q e1)
  | .lst xs, _, .lst dd o q =>
    simp only [datF, Option.map_eq_some_iff] at e
    obtain ⟨ds, e1, rfl⟩ := e
    exact .lst (.inl (.inl dd)) (datFs_ok q e1)
  | .ptup xs, _, .ptup dd dn o q =>
    simp only [datF, Option.map_eq_some_iff] at e
    obtain ⟨ds, e1, rfl⟩ := e
    exact .tup (.inl (.inr ⟨_, dd⟩)) (datFs_ok q e1)
  | _, _, .ref _ => cases e
  | _, _, .fn _ => cases e
  | _, _, .ty _ => cases e
  | _, _, .scr _ => cases e
theorem datFs_ok {vs : List Val} {xs : List V} {ds : List PyData} (z : VRs G r H vs xs) (e : datFs vs = some ds) : DpAll K H xs ds := by
  match vs, xs, z with
  | _, _, .nil => cases e; exact .nil
  | v :: vs, _, .cons q t =>
    simp only [datFs] at e
    split at e
    · rename_i d ds' e1 e2
      cases e
      exact .cons (datF_ok q e1) (datFs_ok t e2)
    · cases e
end
theorem dat_ok {v : Val} {x : V} {d : PyData} (q : Rel G r h H) (z : VR G r H v x) (e : dat v h = some d) : Dp K H x d := by
  cases z with
  | ref e0 =>
    simp only [dat] at e
    split at e
    · rename_i ys hx
      simp only [Option.map_eq_some_iff] at e
      obtain ⟨ds, e1, rfl⟩ := e
      obtain ⟨vs, d, zz⟩ := q.lst_at e0 hx
      exact .lst (.inl (.inl d)) (datFs_ok zz e1)
    · cases e
  | non => exact datF_ok (G := G) (r := r) .non e
  | bl b => exact datF_ok (G := G) (r := r) (.bl b) e
  | int b => exact datF_ok (G := G) (r := r) (.int b) e
  | str b => exact datF_ok (G := G) (r := r) (.str b) e
  | tup a b c => exact datF_ok (.tup a b c) e
  | ptup a b c f => exact datF_ok (.ptup a b c f) e
  | lst a b c => exact datF_ok (.lst a b c) e
  | fn b => cases e
  | ty b => cases e
  | scr b => cases e
def vEq (a b : Val) (h : HM) : Res Val := match dat a h, dat b h with
  | some d, some e => if (SeqAt.shaped d && SeqAt.shaped e) = true then .ok (.bl (PyData.eqv d e)) h else .bad
  | _, _ => .bad
def vNe (a b : Val) (h : HM) : Res Val := match dat a h, dat b h with
  | some d, some e => if (SeqAt.shaped d && SeqAt.shaped e) = true then .ok (.bl (!PyData.eqv d e)) h else .bad
  | _, _ => .bad
theorem om_eq (hu : X.A.units + 64 < cLine) : OpM X G (compareOp .Eq) vEq := .of (op_eqD hu) fun W r h H s a b x y Q q za zb p => by
  unfold vEq at p
  split at p
  · rename_i d e ed ee
    split at p
    · rename_i hs
      rw [Bool.and_eq_true] at hs
      exact ⟨d, e, dat_ok q za ed, dat_ok q zb ee, hs.1, hs.2, Post.here q (.bl _) p⟩
    · exact p.elim
  · exact p.elim
theorem om_ne (hu : X.A.units + 64 < cLine) : OpM X G (compareOp .NotEq) vNe := .of (op_neD hu) fun W r h H s a b x y Q q za zb p => by
  unfold vNe at p
  split at p
  · rename_i d e ed ee
    split at p
    · rename_i hs
      rw [Bool.and_eq_true] at hs
      exact ⟨d, e, dat_ok q za ed, dat_ok q zb ee, hs.1, hs.2, Post.here q (.bl _) p⟩
    · exact p.elim
  · exact p.elim
def rInTD (K : PySem.W.Frag) (neg : Bool) : R2 := fun x y H Q => ∃ d ds, Dp K H x d ∧ Dp K H y (.tuple ds) ∧ SeqAt.shaped d = true ∧ SeqAt.shaped (.tuple ds) = true ∧ Q (.bl (neg ^^ ds.any fun z => PyData.eqv z d)) H
theorem op_inTD (hu : X.A.units + 65 < cLine) : OpR X (compareOp .In) (rInTD X.K false) := by
  intro pins s σ H x y v u Q I rx ry h
  obtain ⟨d, ds, hd, he, sd, se, q⟩ := h
  obtain ⟨as, r1⟩ := Dp.reads I d x v hd rx
  obtain ⟨bs, r2⟩ := Dp.reads I (.tuple ds) y u he ry
  exact SeqAt.in_tuple_reads r2 r1 (SeqAt.canLay_of_shaped se) (SeqAt.canLay_of_shaped sd) (PyProof.Rows.room_in_shaped sd hu) ⟨.bl _, H, I, rfl, by simpa using q⟩
theorem op_notInTD (hu : X.A.units + 65 < cLine) : OpR X (compareOp .NotIn) (rInTD X.K true) := by
  intro pins s σ H x y v u Q I rx ry h
  obtain ⟨d, ds, hd, he, sd, se, q⟩ := h
  obtain ⟨as, r1⟩ := Dp.reads I d x v hd rx
  obtain ⟨bs, r2⟩ := Dp.reads I (.tuple ds) y u he ry
  exact SeqAt.notIn_tuple_reads r2 r1 (SeqAt.canLay_of_shaped se) (SeqAt.canLay_of_shaped sd) (PyProof.Rows.room_in_shaped sd hu) ⟨.bl _, H, I, rfl, by simpa using q⟩
def keyOf : Val → Option Key
  | .int i => some (.inl i)
  | .str x => some (.inr x)
  | _ => none
def keysOf : List Val → Option (List Key)
  | [] => some []
  | x :: xs => match keyOf x, keysOf xs with
    | some k, some ks => some (k :: ks)
    | _, _ => none
def tkey : Val → Option (List Key)
  | .tup xs => keysOf xs
  | _ => none
def getK {κ : Type} [DecidableEq κ] (kvs : List (κ × Val)) (k : κ) : Option Val := (kvs.find? fun kv => decide (kv.1 = k)).map (·.2)
/-- what a dict holds at a key: none: no such question -/
def dGet (n : Nat) (y : Val) (h : HM) : Option (Option Val) := match h[n]? with
  | some (.dK kvs) => (keyOf y).map (getK kvs)
  | some (.lK kvs) => (keyOf y).map (getK kvs)
  | some (.dT kvs) => (tkey y).map (getK kvs)
  | some (.lT kvs) => (tkey y).map (getK kvs)
  | _ => none
theorem key_V {y : Val} {v : V} {k : Key} (z : VR G r H y v) (e : keyOf y = some k) : v = kV k := by
  cases z <;> cases e <;> rfl
theorem keys_V {ys : List Val} {vs : List V} {ks : List Key} (z : VRs G r H ys vs) (e : keysOf ys = some ks) : vs = ks.map kV := by
  induction ys generalizing vs ks with
  | nil => cases z; cases e; rfl
  | cons y ys ih =>
    cases z with
    | cons a b =>
      simp only [keysOf] at e
      split at e
      · rename_i k ks' e1 e2
        cases e
        rw [key_V a e1, ih b e2]
        rfl
      · cases e
theorem getK_ok {κ : Type} [DecidableEq κ] {kvs : List (κ × Val)} {kv : List (κ × V)} (q : KR G r H kvs kv) (k : κ) : (∀ v, getK kvs k = some v → ∃ u, valV kv k = some u ∧ VR G r H v u) ∧ (getK kvs k = none → valV kv k = none) := by
  induction q with
  | nil => exact ⟨fun v e => (by cases e), fun _ => rfl⟩
  | cons a b ih =>
    rename_i p p' xs ys
    by_cases e : p.1 = k
    · have e' : p'.1 = k := by rw [← a.1]; exact e
      have h1 : getK (p :: xs) k = some p.2 := by simp [getK, List.find?_cons, e]
      have h2 : valV (p' :: ys) k = some p'.2 := valV_pos e'
      rw [h1, h2]
      exact ⟨fun v ev => (by cases ev; exact ⟨_, rfl, a.2⟩), fun ev => (by cases ev)⟩
    · have e' : ¬ p'.1 = k := by rw [← a.1]; exact e
      have h1 : getK (p :: xs) k = getK xs k := by simp [getK, List.find?_cons, e]
      have h2 : valV (p' :: ys) k = valV ys k := valV_neg e'
      rw [h1, h2]
      exact ih
theorem dGet_ok {y : Val} {v : V} {o : Option Val} (q : Rel G r h H) (e0 : r.ix[n]? = some a) (z : VR G r H y v) (e : dGet n y h = some o) :
    (∀ w, o = some w → ∃ u, DGet H a v (some u) ∧ VR G r H w u) ∧ (o = none → DGet H a v none) := by
  unfold dGet at e
  cases hn : h[n]? with
  | none => rw [hn] at e; cases e
  | some ob =>
    rw [hn] at e
    have hob := q.ob n a ob e0 hn
    cases hob with
    | dK h1 h2 =>
      simp only [Option.map_eq_some_iff] at e
      obtain ⟨k, ek, rfl⟩ := e
      have hv := key_V z ek
      refine ⟨fun w ew => ?_, fun ew => ?_⟩
      · obtain ⟨u, hu, zu⟩ := (getK_ok h2 k).1 w ew
        exact ⟨u, .inl ⟨_, k, .inl h1, hv, hu.symm⟩, zu⟩
      · exact .inl ⟨_, k, .inl h1, hv, ((getK_ok h2 k).2 ew).symm⟩
    | lK h1 h2 =>
      simp only [Option.map_eq_some_iff] at e
      obtain ⟨k, ek, rfl⟩ := e
      have hv := key_V z ek
      refine ⟨fun w ew => ?_, fun ew => ?_⟩
      · obtain ⟨u, hu, zu⟩ := (getK_ok h2 k).1 w ew
        exact ⟨u, .inl ⟨_, k, .inr ⟨_, h1⟩, hv, hu.symm⟩, zu⟩
      · exact .inl ⟨_, k, .inr ⟨_, h1⟩, hv, ((getK_ok h2 k).2 ew).symm⟩
    | dT h1 h2 =>
      simp only [Option.map_eq_some_iff] at e
      obtain ⟨k, ek, rfl⟩ := e
      cases z with
      | tup d o zz =>
        have hv := keys_V zz ek
        subst hv
        refine ⟨fun w ew => ?_, fun ew => ?_⟩
        · obtain ⟨u, hu, zu⟩ := (getK_ok h2 k).1 w ew
          exact ⟨u, .inr ⟨_, k, _, .inl h1, rfl, d, hu.symm⟩, zu⟩
        · exact .inr ⟨_, k, _, .inl h1, rfl, d, ((getK_ok h2 k).2 ew).symm⟩
      | _ => cases ek
    | lT h1 h2 =>
      simp only [Option.map_eq_some_iff] at e
      obtain ⟨k, ek, rfl⟩ := e
      cases z with
      | tup d o zz =>
        have hv := keys_V zz ek
        subst hv
        refine ⟨fun w ew => ?_, fun ew => ?_⟩
        · obtain ⟨u, hu, zu⟩ := (getK_ok h2 k).1 w ew
          exact ⟨u, .inr ⟨_, k, _, .inr ⟨_, h1⟩, rfl, d, hu.symm⟩, zu⟩
        · exact .inr ⟨_, k, _, .inr ⟨_, h1⟩, rfl, d, ((getK_ok h2 k).2 ew).symm⟩
      | _ => cases ek
    | _ => cases e
/-- one sign, or any text, in a text -/
def inStr (x y : Str) : Bool := match x.cps.toList with
  | [c] => decide (c ∈ y.cps.toList)
  | _ => !(Builtin.Str.occurrences y x 0 y.length 1).isEmpty
def anyEq (d : PyData) (ds : List PyData) : Bool := ds.any fun z => PyData.eqv z d
/-- x in y, as a truth -/
def inB (a b : Val) (h : HM) : Option Bool := match a, b with
  | .str x, .str y => some (inStr x y)
  | a, .ref n => (match h[n]? with
    | some (.lst xs) => (match dat a h, datFs xs with
      | some d, some ds => if (SeqAt.shaped d && SeqAt.shaped (.list ds)) = true then some (anyEq d ds) else none
      | _, _ => none)
    | _ => (dGet n a h).map Option.isSome)
  | a, b => match dat a h, dat b h with
    | some d, some (.list ds) => if (SeqAt.shaped d && SeqAt.shaped (.list ds)) = true then some (anyEq d ds) else none
    | some d, some (.tuple ds) => if (SeqAt.shaped d && SeqAt.shaped (.tuple ds)) = true then some (anyEq d ds) else none
    | _, _ => none
def vIn (a b : Val) (h : HM) : Res Val := match inB a b h with
  | some k => .ok (.bl k) h
  | none => .bad
def vNotIn (a b : Val) (h : HM) : Res Val := match inB a b h with
  | some k => .ok (.bl (!k)) h
  | none => .bad
theorem inB_ok (hu : X.A.units + 65 < cLine) {pins : List (Addr × Obj)} {s : Shared} {σ : St} {x y : V} {v u : Value} {Q : VK} {va vb : Val} {k : Bool} (I : Inv X pins σ H s) (q : Rel G r h H) (za : VR G r H va x) (zb : VR G r H vb y) (rx : RelV x v) (ry : RelV y u) (e : inB va vb h = some k) :
    (Q (.bl k) H → wpAny (model X.prog X.w) X.A (compareOp .In v u) (EP X pins σ Q) X.xe s) ∧ (Q (.bl (!k)) H → wpAny (model X.prog X.w) X.A (compareOp .NotIn v u) (EP X pins σ Q) X.xe s) := by
  have gen : ∀ {va vb : Val} {x y : V} {v u : Value}, VR G r H va x → VR G r H vb y → RelV x v → RelV y u → (match dat va h, dat vb h with
    | some d, some (.list ds) => if (SeqAt.shaped d && SeqAt.shaped (.list ds)) = true then some (anyEq d ds) else none
    | some d, some (.tuple ds) => if (SeqAt.shaped d && SeqAt.shaped (.tuple ds)) = true then some (anyEq d ds) else none
    | _, _ => none) = some k → (Q (.bl k) H → wpAny (model X.prog X.w) X.A (compareOp .In v u) (EP X pins σ Q) X.xe s) ∧ (Q (.bl (!k)) H → wpAny (model X.prog X.w) X.A (compareOp .NotIn v u) (EP X pins σ Q) X.xe s) := by
    intro va vb x y v u za zb rx ry e
    split at e
    · rename_i d ds ed ee
      split at e
      · rename_i hs
        rw [Bool.and_eq_true] at hs
        cases e
        exact ⟨fun qq => op_inD hu pins s σ H x y v u Q I rx ry ⟨d, ds, dat_ok q za ed, dat_ok q zb ee, hs.1, hs.2, qq⟩, fun qq => op_notInD hu pins s σ H x y v u Q I rx ry ⟨d, ds, dat_ok q za ed, dat_ok q zb ee, hs.1, hs.2, qq⟩⟩
      · cases e
    · rename_i d ds ed ee
      split at e
      · rename_i hs
        rw [Bool.and_eq_true] at hs
        cases e
        exact ⟨fun qq => op_inTD hu pins s σ H x y v u Q I rx ry ⟨d, ds, dat_ok q za ed, dat_ok q zb ee, hs.1, hs.2, by simpa [anyEq] using qq⟩, fun qq => op_notInTD hu pins s σ H x y v u Q I rx ry ⟨d, ds, dat_ok q za ed, dat_ok q zb ee, hs.1, hs.2, by simpa [anyEq] using qq⟩⟩
      · cases e
    · cases e
  have za0 := za
  cases zb with
  | str y =>
    cases za with
    | str x =>
      have e : some (inStr x y) = some k := e
      cases e
      unfold inStr
      split
      · rename_i c hc
        have hx : x = ⟨#[c]⟩ := by
          cases x with | mk cps => congr 1; apply Array.toList_inj.mp; simpa using hc
        subst hx
        exact ⟨fun qq => op_in_sign pins s σ H _ _ v u Q I rx ry ⟨c, y, rfl, rfl, qq⟩, fun qq => op_notIn_sign pins s σ H _ _ v u Q I rx ry ⟨c, y, rfl, rfl, qq⟩⟩
      · exact ⟨fun qq => op_in_str pins s σ H _ _ v u Q I rx ry ⟨x, y, rfl, rfl, qq⟩, fun qq => op_notIn_str pins s σ H _ _ v u Q I rx ry ⟨x, y, rfl, rfl, qq⟩⟩
    | _ => exact gen za0 (.str y) rx ry e
  | @ref n a e0 =>
    have e : (match h[n]? with
    | some (.lst xs) => (match dat va h, datFs xs with
      | some d, some ds => if (SeqAt.shaped d && SeqAt.shaped (.list ds)) = true then some (anyEq d ds) else none
      | _, _ => none)
    | _ => (dGet n va h).map Option.isSome) = some k := by cases va <;> exact e
    split at e
    · rename_i xs hx
      refine gen za (.ref e0) rx ry ?_
      show (match dat va h, dat (.ref n) h with
        | some d, some (.list ds) => if (SeqAt.shaped d && SeqAt.shaped (.list ds)) = true then some (anyEq d ds) else none
        | some d, some (.tuple ds) => if (SeqAt.shaped d && SeqAt.shaped (.tuple ds)) = true then some (anyEq d ds) else none
        | _, _ => none) = some k
      have ed : dat (.ref n) h = (datFs xs).map .list := by simp only [dat, hx]
      rw [ed]
      revert e
      cases datFs xs with
      | none => cases dat va h <;> exact fun e => by cases e
      | some ds => cases dat va h with
        | none => exact fun e => by cases e
        | some d => exact fun e => e
    · simp only [Option.map_eq_some_iff] at e
      obtain ⟨o, eo, rfl⟩ := e
      obtain ⟨h1, h2⟩ := dGet_ok q e0 za eo
      have hu1 : X.A.units + 1 < cLine := by omega
      have hg : ∃ ov, DGet H a x ov ∧ ov.isSome = o.isSome := by
        cases o with
        | none => exact ⟨none, h2 rfl, rfl⟩
        | some w => obtain ⟨u, g, _⟩ := h1 w rfl; exact ⟨_, g, rfl⟩
      obtain ⟨ov, g, eq⟩ := hg
      obtain rfl : u = Value.ref a := ry
      rw [← eq]
      exact ⟨fun qq => d_in hu1 I g rx fun s3 I3 => ⟨.bl _, H, I3, rfl, qq⟩, fun qq => d_notIn hu1 I g rx fun s3 I3 => ⟨.bl _, H, I3, rfl, qq⟩⟩
  | tup b1 b2 b3 => exact gen za (.tup b1 b2 b3) rx ry (by cases va <;> exact e)
  | ptup b1 b2 b3 b4 => exact gen za (.ptup b1 b2 b3 b4) rx ry (by cases va <;> exact e)
  | lst b1 b2 b3 => exact gen za (.lst b1 b2 b3) rx ry (by cases va <;> exact e)
  | non => exact gen za .non rx ry (by cases va <;> exact e)
  | bl b => exact gen za (.bl b) rx ry (by cases va <;> exact e)
  | int b => exact gen za (.int b) rx ry (by cases va <;> exact e)
  | fn b => exact gen za (.fn b) rx ry (by cases va <;> exact e)
  | ty b => exact gen za (.ty b) rx ry (by cases va <;> exact e)
  | scr b => exact gen za (.scr b) rx ry (by cases va <;> exact e)
theorem om_in (hu : X.A.units + 65 < cLine) : OpM X G (compareOp .In) vIn := by
  intro W pins s σ H r h a b x y v u Q I q za zb rx ry p
  unfold vIn at p
  split at p
  · rename_i k e
    exact (inB_ok hu I q za zb rx ry e).1 (Post.here q (.bl _) p)
  · exact p.elim
theorem om_notIn (hu : X.A.units + 65 < cLine) : OpM X G (compareOp .NotIn) vNotIn := by
  intro W pins s σ H r h a b x y v u Q I q za zb rx ry p
  unfold vNotIn at p
  split at p
  · rename_i k e
    exact (inB_ok hu I q za zb rx ry e).2 (Post.here q (.bl _) p)
  · exact p.elim
/-- is None; is True, is False of a truth -/
def isB (a b : Val) : Option Bool := match a, b with
  | .non, .non => some true
  | _, .non => some false
  | .bl x, .bl y => some (decide (x = y))
  | _, _ => none
def vIs (a b : Val) (h : HM) : Res Val := match isB a b with
  | some k => .ok (.bl k) h
  | none => .bad
def vIsNot (a b : Val) (h : HM) : Res Val := match isB a b with
  | some k => .ok (.bl (!k)) h
  | none => .bad
theorem isN_V {v : Val} {x : V} (z : VR G r H v x) : isB v .non = some (decide (x = .non)) := by cases z <;> rfl
theorem om_is : OpM X G (compareOp .Is) vIs := by
  intro W pins s σ H r h a b x y v u Q I q za zb rx ry p
  cases zb with
  | non =>
    unfold vIs at p
    rw [isN_V za] at p
    exact op_isN pins s σ H _ _ v u Q I rx ry ⟨rfl, Post.here q (.bl _) p⟩
  | bl k =>
    cases za with
    | bl j => exact op_isBl pins s σ H _ _ v u Q I rx ry ⟨j, k, rfl, rfl, Post.here q (.bl _) p⟩
    | _ => exact p.elim
  | _ => cases za <;> exact p.elim
theorem om_isNot : OpM X G (compareOp .IsNot) vIsNot := by
  intro W pins s σ H r h a b x y v u Q I q za zb rx ry p
  cases zb with
  | non =>
    unfold vIsNot at p
    rw [isN_V za] at p
    exact op_notN pins s σ H _ _ v u Q I rx ry ⟨rfl, Post.here q (.bl _) p⟩
  | bl k =>
    cases za with
    | bl j => exact op_notBl pins s σ H _ _ v u Q I rx ry ⟨j, k, rfl, rfl, Post.here q (.bl _) p⟩
    | _ => exact p.elim
  | _ => cases za <;> exact p.elim
end
end MM
namespace MM
open PySem L2
section
variable {X : Cx} {G : Glob} {W : WX} {r r1 r2 : Ad} {H H1 H2 : Hp} {h h1 : HM} {l : Loc} {s : St} {K : PySem.W.Frag} {a : Addr} {xs : List Val} {vs : List V} {n k : Nat}
def ofO (o : Option Val) (h : HM) : Res Val := match o with
  | some v => .ok v h
  | none => .bad
def vIx (a b : Val) (h : HM) : Res Val := match a, b with
  | .tup xs, .int i => ofO (atI xs i) h
  | .ptup xs, .int i => ofO (atI xs i) h
  | .lst xs, .int i => ofO (atI xs i) h
  | .str x, .int i => if x.length ≤ sizeLine then ofO ((atI x.cps.toList i).map fun c => .str ⟨#[c]⟩) h else .bad
  | .scr ns, .int i => ofO ((atI ns i).map .int) h
  | .ref n, b => match h[n]?, b with
    | some (.lst xs), .int i => ofO (atI xs i) h
    | _, _ => (match dGet n b h with
      | some (some v) => .ok v h
      | _ => .bad)
  | _, _ => .bad
/-- what a subscript is, by values -/
def IxM (X : Cx) (G : Glob) (g : VOp) : Prop :=
  ∀ (W : WX) (value slice : Expr) (pins : List (Addr × Obj)) (s : Shared) (σ : St) (H : Hp) (r : Ad) (h : HM) (a b : Val) (x y : V) (v u : Value) (Q : VK), Inv X pins σ H s → Rel G r h H → VR G r H a x → VR G r H b y → RelV x v → RelV y u →
    Post G W r H σ (VR G) Q (g a b h) → subscripted slice false v u = operate [v, u] (getItem v u) → wpAny (model X.prog X.w) X.A (PyProof.Rows.subscriptTail value slice v u) (EP X pins σ Q) X.xe s
theorem atI_ok (z : VRs G r H xs vs) {i : Int} {v : Val} (e : atI xs i = some v) : ∃ u, atI vs i = some u ∧ VR G r H v u := by
  unfold L2.atI at e ⊢
  rw [← z.length]
  cases hj : L2.ixN xs.length i with
  | none => rw [hj] at e; cases e
  | some j =>
    rw [hj] at e
    obtain ⟨u, hu, zu⟩ := z.get e
    exact ⟨u, hu, zu⟩
theorem om_ix (hu : X.A.units + 1 < cLine) (hK : G.K = X.K := by rfl) : IxM X G vIx := by
  intro W value slice pins s σ H r h a b x y v u Q I q za zb rx ry p hs
  cases za with
  | @tup a vs xs d o z =>
    cases zb with
    | int i =>
      dsimp only [vIx] at p
      cases e : atI xs i with
      | none => rw [e] at p; exact p.elim
      | some w =>
        rw [e] at p
        obtain ⟨uu, hu, zu⟩ := atI_ok z e
        exact ix_tup value slice pins s σ H _ _ v u Q I rx ry ⟨a, vs, i, uu, rfl, rfl, .inl (.inl d), hu, Post.here q zu p⟩ hs
    | _ => exact p.elim
  | @ptup a ob vs xs d dn o z =>
    cases zb with
    | int i =>
      dsimp only [vIx] at p
      cases e : atI xs i with
      | none => rw [e] at p; exact p.elim
      | some w =>
        rw [e] at p
        obtain ⟨uu, hu, zu⟩ := atI_ok z e
        exact ix_tup value slice pins s σ H _ _ v u Q I rx ry ⟨a, vs, i, uu, rfl, rfl, .inl (.inr ⟨_, d⟩), hu, Post.here q zu p⟩ hs
    | _ => exact p.elim
  | @lst a vs xs d o z =>
    cases zb with
    | int i =>
      dsimp only [vIx] at p
      cases e : atI xs i with
      | none => rw [e] at p; exact p.elim
      | some w =>
        rw [e] at p
        obtain ⟨uu, hu, zu⟩ := atI_ok z e
        exact ix_list value slice pins s σ H _ _ v u Q I rx ry ⟨a, vs, i, uu, rfl, rfl, .inl (.inl d), hu, Post.here q zu p⟩ hs
    | _ => exact p.elim
  | str x =>
    cases zb with
    | int i =>
      dsimp only [vIx] at p
      split at p
      · rename_i hz
        cases e : atI x.cps.toList i with
        | none => rw [e] at p; exact p.elim
        | some c =>
          rw [e] at p
          exact ix_str value slice pins s σ H _ _ v u Q I rx ry ⟨x, i, c, rfl, rfl, hz, e, Post.here q (.str _) p⟩ hs
      · exact p.elim
    | _ => exact p.elim
  | @ref n a e0 =>
    dsimp only [vIx] at p
    split at p
    · rename_i xs i hx
      cases zb with
      | int i =>
        cases e : atI xs i with
        | none => rw [e] at p; exact p.elim
        | some w =>
          rw [e] at p
          obtain ⟨vs, d, z⟩ := q.lst_at e0 hx
          obtain ⟨uu, hu, zu⟩ := atI_ok z e
          exact ix_list value slice pins s σ H _ _ v u Q I rx ry ⟨a, vs, i, uu, rfl, rfl, .inl (.inl d), hu, Post.here q zu p⟩ hs
    · split at p
      · rename_i w ew
        obtain ⟨uu, g, zu⟩ := (dGet_ok q e0 zb ew).1 w rfl
        obtain rfl : v = Value.ref a := rx
        refine PyProof.Rows.tail_any (dict_typeIs I g) PySem.F.slot_dict_getitem.lookup (d_getItem hu I g ry fun w' s' I' rw' => ⟨uu, H, I', rw', Post.here q zu p⟩) hs
      · exact p.elim
  | @scr a ns z =>
    cases zb with
    | int i =>
      dsimp only [vIx] at p
      cases e : atI ns i with
      | none => rw [e] at p; exact p.elim
      | some w =>
        rw [e] at p
        have e2 : atI (ns.map V.int) i = some (.int w) := by
          unfold L2.atI at e ⊢
          rw [List.length_map]
          cases hj : L2.ixN ns.length i with
          | none => rw [hj] at e; cases e
          | some j => rw [hj] at e; simp only [Option.bind_some] at e ⊢; rw [List.getElem?_map, e]; rfl
        exact ix_list value slice pins s σ H _ _ v u Q I rx ry ⟨a, _, i, _, rfl, rfl, hK ▸ z.sq, e2, Post.here q (.int _) p⟩ hs
    | _ => exact p.elim
  | _ => exact p.elim
variable {e f i : Expr} {me mf mi : EM} {pos p2 : Pos}
theorem me_ix {g : VOp} (o : IxM X G g) (he : ME X G W e me) (hi : ME X G W i mi) (hs : PlainIx i := by intro _ _; rfl) : ME X G W (.Subscript e i pos) (e2 g me mi) :=
  ⟨fun pins s σ H Q I ⟨r, h, l, q, hl, p⟩ => PyProof.Rows.Subscript_ (both he hi I q hl p fun v u s2 x y H2 r2 h2 va vb I2 ex q2 za zb rx ry p2 => o W e i pins s2 σ H2 r2 h2 va vb x y v u Q I2 q2 za zb rx ry p2 (hs _ _))⟩
abbrev OM := Loc → HM → Res (Option Int)
def oNone : OM := fun _ h => .ok none h
def oSome (m : EM) : OM := fun l h => (m l h).bind fun v h1 => match v with
  | .int i => .ok (some i) h1
  | _ => .bad
def tO (G : Glob) (W : WX) (m : OM) : TO := fun s H Q => ∃ r h l, Rel G r h H ∧ LR G r H l s ∧ Post G W r H s REq Q (m l h)
abbrev MO (X : Cx) (G : Glob) (W : WX) (e : Option Expr) (m : OM) : Prop := PO X e (tO G W m)
theorem mo_none : MO X G W none oNone := ⟨fun pins s σ H Q I ⟨r, h, l, q, hl, p⟩ => po_none.run pins s σ H Q I (Post.here (R := REq) q rfl p)⟩
theorem mo_some (he : ME X G W e me) : MO X G W (some e) (oSome me) := ⟨fun pins s σ H Q I ⟨r, h, l, q, hl, p⟩ => (po_some he).run pins s σ H Q I ⟨r, h, l, q, hl, (Post.bind p).imp fun x H1 ⟨r1, h1, w1, e1, q1, z1, p1⟩ => by
  cases z1 with
  | int i => exact ⟨i, rfl, Post.here (R := REq) q1 rfl p1⟩
  | _ => exact p1.elim⟩⟩
def cutL {α : Type} (xs : List α) (lo hi : Option Int) : List α := (xs.drop (HT.sIx xs.length 0 lo)).take (HT.sIx xs.length xs.length hi - HT.sIx xs.length 0 lo)
def vSl (a : Val) (lo hi : Option Int) (h : HM) : Res Val := match a with
  | .tup xs => .ok (.tup (cutL xs lo hi)) h
  | .ptup xs => .ok (if HT.sIx xs.length 0 lo = 0 ∧ HT.sIx xs.length xs.length hi = xs.length then .ptup xs else .tup (cutL xs lo hi)) h
  | .str x => if x.length ≤ sizeLine then .ok (.str (cutS x lo hi)) h else .bad
  | a => match seqL a h with
    | some xs => .ok (.lst (cutL xs lo hi)) h
    | none => .bad
def eSl (m : EM) (lo hi : OM) : EM := fun l h => (m l h).bind fun x h1 => (lo l h1).bind fun a h2 => (hi l h2).bind fun b h3 => vSl x a b h3
theorem cut_ok (z : VRs G r H xs vs) (lo hi : Option Int) : VRs G r H (cutL xs lo hi) (cutV vs lo hi) := by
  unfold cutL L2.cutV
  rw [z.length]
  exact (z.drop _).take _
theorem cut_whole {xs : List Val} {lo hi : Option Int} (hw : HT.sIx xs.length 0 lo = 0 ∧ HT.sIx xs.length xs.length hi = xs.length) : cutL xs lo hi = xs := by
  unfold cutL
  rw [hw.1, hw.2]
  simp
theorem mslice {o : Option Expr} {o' : Option Expr} {lo hi : OM} (he : ME X G W e me) (hlo : MO X G W o lo) (hhi : MO X G W o' hi) : ME X G W (.Subscript e (.Slice o o' none p2) pos) (eSl me lo hi) := by
  refine ⟨fun pins s σ H Q I ⟨r, h, l, q, hl, p⟩ => ?_⟩
  refine (pe_slice (r := fun x a b H Q => ∃ r h v, Rel G r h H ∧ VR G r H v x ∧ Post G W r H σ (VR G) Q (vSl v a b h)) (fun pins s σ' H x v vl vu lo hi sl Q I rx hs pl pu ⟨r, h, w, q, z, p⟩ => ?_) he hlo hhi).run pins s σ H Q I ⟨r, h, l, q, hl, (Post.bind p).imp fun x H1 ⟨r1, h1, w1, e1, q1, z1, p1⟩ => ⟨r1, h1, l, q1, hl.ext e1, (Post.bind p1).imp fun a H2 ⟨r2, h2, w2, e2, q2, z2, p2⟩ => ⟨r2, h2, l, q2, (hl.ext e1).ext e2, (Post.bind p2).imp fun b H3 ⟨r3, h3, w3, e3, q3, z3, p3⟩ => ?_⟩⟩⟩
  · have gen : ∀ xs, seqL w h = some xs → (seqL w h = some xs → Post G W r H σ (VR G) Q (.ok (.lst (cutL xs lo hi)) h)) → ∃ T id, typeLookup (.type T) "__getitem__" = pure (some (.builtin id)) ∧ s.TypeIs v T ∧ wpAny (model X.prog X.w) X.A (getItem v (.ref sl)) (EP X pins σ' Q) X.xe s := by
      intro xs e p
      obtain ⟨a, vs, rfl, d, zz⟩ := seqL_ok q z e
      exact sl_list pins s σ' H _ v vl vu lo hi sl Q I rx hs pl pu ⟨a, vs, rfl, .inl (.inl d), fun a' n => p e r _ _ (ext_new q n) (q.laid n) (.lst upd_same (q.new n) ((cut_ok zz lo hi).ext (ext_new q n)))⟩
    cases z with
    | @tup a vs xs d o z =>
      refine sl_tupA pins s σ' H _ v vl vu lo hi sl Q I rx hs pl pu ⟨a, vs, rfl, .inl (.inl d), fun hw => ?_, fun hw a' n => ?_⟩
      · have p : Post G W r H σ (VR G) Q (.ok (.tup (cutL xs lo hi)) h) := p
        rw [cut_whole (by rw [z.length]; exact hw)] at p
        exact Post.here q (.tup d o z) p
      · exact p r _ _ (ext_new q n) (q.laid n) (.tup upd_same (q.new n) ((cut_ok z lo hi).ext (ext_new q n)))
    | @ptup a ob vs xs d dn o z =>
      have p : Post G W r H σ (VR G) Q (.ok (if HT.sIx xs.length 0 lo = 0 ∧ HT.sIx xs.length xs.length hi = xs.length then .ptup xs else .tup (cutL xs lo hi)) h) := p
      refine sl_tupA pins s σ' H _ v vl vu lo hi sl Q I rx hs pl pu ⟨a, vs, rfl, .inl (.inr ⟨_, d⟩), fun hw => ?_, fun hw a' n => ?_⟩
      · rw [if_pos (by rw [z.length]; exact hw)] at p
        exact Post.here q (.ptup d dn o z) p
      · rw [if_neg (by rw [z.length]; exact hw)] at p
        exact p r _ _ (ext_new q n) (q.laid n) (.tup upd_same (q.new n) ((cut_ok z lo hi).ext (ext_new q n)))
    | str x =>
      dsimp only [vSl] at p
      split at p
      · rename_i hz
        exact sl_str pins s σ' H _ v vl vu lo hi sl Q I rx hs pl pu ⟨x, rfl, hz, Post.here q (.str _) p⟩
      · exact p.elim
    | @lst a vs xs d o z => exact gen xs rfl fun _ => p
    | @ref n a e0 =>
      cases e : seqL (.ref n) h with
      | none =>
        have p : Post G W r H σ (VR G) Q (match seqL (.ref n) h with | some xs => .ok (.lst (cutL xs lo hi)) h | none => .bad) := p
        rw [e] at p; exact p.elim
      | some xs =>
        have p : Post G W r H σ (VR G) Q (match seqL (.ref n) h with | some xs => .ok (.lst (cutL xs lo hi)) h | none => .bad) := p
        rw [e] at p
        exact gen xs e fun _ => p
    | _ => exact p.elim
  · cases z2
    cases z3
    exact ⟨r3, h3, w1, q3, (z1.ext e2).ext e3, p3⟩
def eChM (g g' : VOp) (a b c : EM) : EM := fun l h => (a l h).bind fun x h1 => (b l h1).bind fun y h2 => (g x y h2).bind fun z h3 => (toB z h3).bind fun k h4 => if k = true then (c l h4).bind fun w h5 => g' y w h5 else .ok (.bl false) h4
variable {c : Expr} {mc : EM}
theorem me_chain {op op' : CmpOp} {g g' : VOp} (ho : OpM X G (compareOp op) g) (ho' : OpM X G (compareOp op') g') (ha : ME X G W e me) (hb : ME X G W f mf) (hc : ME X G W c mc)
    (hm : lastMarks [op, op'] [f, c] = false := by with_unfolding_all rfl) : ME X G W (.Compare e [op, op'] [f, c] pos) (eChM g g' me mf mc) := by
  refine ⟨fun pins s σ H Q I ⟨r, h, l, q, hl, p⟩ => ?_⟩
  refine PyProof.Rows.Compare_chain (thn (ha.run pins s σ H _ I ⟨r, h, l, q, hl, Post.bind p⟩) fun v s1 ⟨x, H1, I1, rx, ⟨r1, h1, va, e1, q1, z1, p1⟩⟩ => PyProof.Rows.chain_link (thn (hb.run pins s1 σ H1 _ I1 ⟨r1, h1, l, q1, hl.ext e1, Post.bind p1⟩) fun u s2 ⟨y, H2, I2, ry, ⟨r2, h2, vb, e2, q2, z2, p2⟩⟩ =>
    thn (ho W pins s2 σ H2 r2 h2 va vb x y v u _ I2 q2 (z1.ext e2) z2 rx ry (Post.bind p2)) fun d s3 ⟨z, H3, I3, rz, ⟨r3, h3, vz, e3, q3, z3, p3⟩⟩ => ?_)) hm
  cases z3 with
  | bl k =>
    cases rz
    refine wpAny_truthy_bool ?_
    simp only [toB, Res.bind_ok] at p3
    cases k with
    | false => exact PyProof.Rows.ite_ff ⟨.bl false, H3, I3, rfl, Post.here q3 (.bl _) p3⟩
    | true => exact PyProof.Rows.ite_tt (PyProof.Rows.chain_last (thn (hc.run pins s3 σ H3 _ I3 ⟨r3, h3, l, q3, ((hl.ext e1).ext e2).ext e3, Post.bind p3⟩) fun w' s4 ⟨z', H4, I4, r4, ⟨r4', h4, vw, e4, q4, z4, p4⟩⟩ =>
        ho' W pins s4 σ H4 r4' h4 vb vw y z' u w' Q I4 q4 ((z2.ext e3).ext e4) z4 ry r4 p4))
  | _ => exact p3.elim
/-- a built-in called with values -/
abbrev BOp := List Val → HM → Res Val
def CallM (X : Cx) (G : Glob) (f : Value) (g : BOp) : Prop :=
  ∀ (W : WX) (σ : St), CallR X f fun vs H Q => ∃ r h xs, Rel G r h H ∧ VRs G r H xs vs ∧ Post G W r H σ (VR G) Q (g xs h)
def eBi (g : BOp) (m : AM) : EM := fun l h => (m l h).bind g
variable {id T : String} {g : BOp} {x : Str} {p : Pos} {es : List Expr} {ma : AM}
theorem me_bi (hc : CallM X G (.builtin id) g) (hg : Gl X x) (hm : X.mg x = none) (hv : bootBuiltins x = some (.builtin id)) (ha : MA X G W (e :: es) ma) (hn : x ≠ "__name__" := by decide) (hdb : (x == ("__debug__" : Str)) = false := by decide)
    (he : starEach (e :: es) X.env = (false, eval e X.env) :: starEach es X.env := by rfl) (hpl : (backTo pos (starEach es X.env)).any (·.1) = false := by rfl) : ME X G W (.Call (.Name x p) (e :: es) [] pos) (eBi g ma) := by
  refine ⟨fun pins s σ H Q I ⟨r, h, l, q, hl, pp⟩ => (pe_callB (hc W σ) hg hm hv ha hn hdb he hpl).run pins s σ H Q I ⟨r, h, l, q, hl, (Post.bind pp).imp fun vs H1 ⟨r1, h1, w1, e1, q1, z1, p1⟩ => ⟨r1, h1, w1, q1, z1, p1⟩⟩⟩
theorem me_biT (hc : CallM X G (.type T) g) (hg : Gl X x) (hm : X.mg x = none) (hv : bootBuiltins x = some (.type T)) (ha : MA X G W (e :: es) ma) (hn : x ≠ "__name__" := by decide) (hdb : (x == ("__debug__" : Str)) = false := by decide)
    (he : starEach (e :: es) X.env = (false, eval e X.env) :: starEach es X.env := by rfl) (hpl : (backTo pos (starEach es X.env)).any (·.1) = false := by rfl) : ME X G W (.Call (.Name x p) (e :: es) [] pos) (eBi g ma) := by
  refine ⟨fun pins s σ H Q I ⟨r, h, l, q, hl, pp⟩ => (pe_callTy (hc W σ) hg hm hv ha hn hdb he hpl).run pins s σ H Q I ⟨r, h, l, q, hl, (Post.bind pp).imp fun vs H1 ⟨r1, h1, w1, e1, q1, z1, p1⟩ => ⟨r1, h1, w1, q1, z1, p1⟩⟩⟩
theorem CallM.of {v : Value} {g : BOp} {R : List V → Hp → VK → Prop} (cr : CallR X v R) (i : ∀ W σ r h H xs vs Q, Rel G r h H → VRs G r H xs vs → Post G W r H σ (VR G) Q (g xs h) → R vs H Q) : CallM X G v g :=
  fun W σ0 pins s σ H vs us Q I rv ⟨r, h, xs, q, z, p⟩ => cr pins s σ H vs us Q I rv (i W σ0 r h H xs vs Q q z p)
/-- the name of a built-in type -/
theorem me_ty {T : String} (hg : Gl X x) (hm : X.mg x = none) (hv : bootBuiltins x = some (.type T)) (hn : x ≠ "__name__" := by decide) (hdb : (x == ("__debug__" : Str)) = false := by decide) : ME X G W (.Name x pos) (eC (.ty T)) :=
  me_of (pe_bltn (v := .ty T) hg hm hv rfl hn hdb) fun r h l s H Q q hl p => Post.here q (.ty _) p
def lenN (v : Val) (h : HM) : Option Nat := match v with
  | .str x => if x.length ≤ sizeLine then some x.length else none
  | .tup xs => some xs.length
  | .ptup xs => some xs.length
  | .lst xs => some xs.length
  | .scr ns => some ns.length
  | .ref n => (match h[n]? with
    | some (.lst xs) => some xs.length
    | some (.dK kvs) => some kvs.length
    | some (.dT kvs) => some kvs.length
    | _ => none)
  | _ => none
def bLen : BOp := fun xs h => match xs with
  | [v] => (match lenN v h with
    | some n => .ok (.int n) h
    | none => .bad)
  | _ => .bad
theorem CallR.or {f : Value} {R R' : List V → Hp → VK → Prop} (a : CallR X f R) (b : CallR X f R') : CallR X f fun vs H Q => R vs H Q ∨ R' vs H Q := by
  intro pins s σ H xs us Q I r h
  rcases h with h | h
  · exact a pins s σ H xs us Q I r h
  · exact b pins s σ H xs us Q I r h
theorem cm_len (hK : G.K = X.K := by rfl) : CallM X G (.builtin "len") bLen := .of (CallR.or call_len (CallR.or call_lenD call_len_dT)) fun W σ r h H xs vs Q q z p => by
  unfold bLen at p
  split at p
  · rename_i v
    split at p
    · rename_i n e
      cases z with
      | cons z1 z2 =>
        cases z2
        cases z1 with
        | str x =>
          simp only [lenN] at e
          split at e
          · rename_i hz; cases e; exact .inl ⟨_, _, rfl, ⟨hz, rfl⟩, Post.here q (.int _) p⟩
          · cases e
        | tup d o zz => cases e; exact .inl ⟨_, _, rfl, .inr ⟨_, .inl (.inl d), rfl⟩, by rw [← zz.length]; exact Post.here q (.int _) p⟩
        | ptup d dn o zz => cases e; exact .inl ⟨_, _, rfl, .inr ⟨_, .inl (.inr ⟨_, d⟩), rfl⟩, by rw [← zz.length]; exact Post.here q (.int _) p⟩
        | lst d o zz => cases e; exact .inl ⟨_, _, rfl, .inl ⟨_, .inl (.inl d), rfl⟩, by rw [← zz.length]; exact Post.here q (.int _) p⟩
        | @scr a ns zz => cases e; exact .inl ⟨_, _, rfl, .inl ⟨_, hK ▸ zz.sq, by simp⟩, Post.here q (.int _) p⟩
        | ref e0 =>
          obtain ⟨o, ho, ob⟩ := q.at_ e0
          simp only [lenN, ho] at e
          cases ob with
          | lst h1 h2 => cases e; exact .inl ⟨_, _, rfl, .inl ⟨_, .inl (.inl h1), rfl⟩, by rw [← h2.length]; exact Post.here q (.int _) p⟩
          | dK h1 h2 => cases e; exact .inr (.inl ⟨_, _, rfl, h1, by rw [← Paired.length h2]; exact Post.here q (.int _) p⟩)
          | dT h1 h2 => cases e; exact .inr (.inr ⟨_, _, rfl, h1, by rw [← Paired.length h2]; exact Post.here q (.int _) p⟩)
          | _ => cases e
        | _ => cases e
    · exact p.elim
  · exact p.elim
def boolsOf : List Val → Option (List Bool)
  | [] => some []
  | x :: xs => match x, boolsOf xs with
    | .bl b, some bs => some (b :: bs)
    | _, _ => none
theorem bools_ok {bs : List Bool} (z : VRs G r H xs vs) (e : boolsOf xs = some bs) : vs = bs.map V.bl := by
  induction xs generalizing vs bs with
  | nil => cases z; cases e; rfl
  | cons x xs ih =>
    cases z with
    | cons a b =>
      simp only [boolsOf] at e
      split at e
      · rename_i b1 bs' e2
        cases e
        cases a
        rw [ih b e2]
        rfl
      · cases e
def bAll : BOp := fun xs h => match xs with
  | [v] => (match (seqL v h).bind boolsOf with
    | some bs => .ok (.bl (bs.all _root_.id)) h
    | none => .bad)
  | _ => .bad
def bAny : BOp := fun xs h => match xs with
  | [v] => (match (seqL v h).bind boolsOf with
    | some bs => .ok (.bl (bs.any _root_.id)) h
    | none => .bad)
  | _ => .bad
theorem bools_seq {v : Val} {x : V} {bs : List Bool} (q : Rel G r h H) (z : VR G r H v x) (e : (seqL v h).bind boolsOf = some bs) : ∃ a, x = .ref a ∧ SqL K H a (bs.map V.bl) := by
  cases es : seqL v h with
  | none => rw [es] at e; cases e
  | some ys =>
    rw [es] at e
    obtain ⟨a, vs, rfl, d, zz⟩ := seqL_ok q z es
    have := bools_ok zz e
    subst this
    exact ⟨a, rfl, .inl (.inl d)⟩
theorem cm_all (hc : X.calm = true) : CallM X G (.builtin "all") bAll := .of (cr_all hc) fun W σ r h H xs vs Q q z p => by
  unfold bAll at p
  split at p
  · split at p
    · rename_i bs e
      cases z with
      | cons z1 z2 =>
        cases z2
        obtain ⟨a, rfl, d⟩ := bools_seq (K := X.K) q z1 e
        exact ⟨a, bs, rfl, d, Post.here q (.bl _) p⟩
    · exact p.elim
  · exact p.elim
theorem cm_any (hc : X.calm = true) : CallM X G (.builtin "any") bAny := .of (cr_any hc) fun W σ r h H xs vs Q q z p => by
  unfold bAny at p
  split at p
  · split at p
    · rename_i bs e
      cases z with
      | cons z1 z2 =>
        cases z2
        obtain ⟨a, rfl, d⟩ := bools_seq (K := X.K) q z1 e
        exact ⟨a, bs, rfl, d, Post.here q (.bl _) p⟩
    · exact p.elim
  · exact p.elim
def tyN (v : Val) (h : HM) : Option String := match v with
  | .non => some "NoneType"
  | .bl _ => some "bool"
  | .int _ => some "int"
  | .str _ => some "str"
  | .tup _ => some "tuple"
  | .ptup _ => some "tuple"
  | .lst _ => some "list"
  | .ref n => (match h[n]? with
    | some (.lst _) => some "list"
    | some (.dK _) => some "dict"
    | some (.dT _) => some "dict"
    | _ => none)
  | _ => none
def bIsi : BOp := fun xs h => match xs with
  | [v, .ty u] => (match tyN v h with
    | some t => (match kitB t u with
      | some b => .ok (.bl b) h
      | none => .bad)
    | none => .bad)
  | [v, .tup [.ty u, .ty w]] => (match tyN v h with
    | some t => (match kitB t u, kitB t w with
      | some b, some b' => .ok (.bl (b || b')) h
      | _, _ => .bad)
    | none => .bad)
  | _ => .bad
theorem tyN_ok {v : Val} {x : V} {t : String} (q : Rel G r h H) (z : VR G r H v x) (e : tyN v h = some t) : TyX K H x (.type t) := by
  cases z with
  | ref e0 =>
    obtain ⟨o, ho, ob⟩ := q.at_ e0
    simp only [tyN, ho] at e
    cases ob with
    | lst h1 h2 => cases e; exact .base (.lst h1)
    | dK h1 h2 => cases e; exact .base (.dK h1)
    | dT h1 h2 => cases e; exact .base (.dT h1)
    | _ => cases e
  | non => cases e; exact .base .non
  | bl b => cases e; exact .base (.bl b)
  | int b => cases e; exact .base (.int b)
  | str b => cases e; exact .base (.str b)
  | tup d b c => cases e; exact .base (.tup d)
  | lst d b c => cases e; exact .base (.lst d)
  | ptup d b c f => cases e; exact .fTuple d
  | fn b => cases e
  | ty b => cases e
  | scr b => cases e
theorem cm_isi : CallM X G (.builtin "isinstance") bIsi := .of (CallR.or call_isi call_isiT) fun W σ r h H xs vs Q q z p => by
  unfold bIsi at p
  split at p
  · rename_i v u
    split at p
    · rename_i t et
      split at p
      · rename_i b eb
        cases z with
        | cons z1 z2 => cases z2 with | cons z2 z3 => cases z3; cases z2; exact .inl ⟨_, _, .type t, .type u, b, rfl, .ty u, tyN_ok q z1 et, kit_ty eb, Post.here q (.bl _) p⟩
      · exact p.elim
    · exact p.elim
  · rename_i v u w
    split at p
    · rename_i t et
      split at p
      · rename_i b b' eb eb'
        cases z with
        | cons z1 z2 => cases z2 with
          | cons z2 z3 =>
            cases z3
            cases z2 with
            | tup d o zz =>
              cases zz with
              | cons y1 y2 => cases y2 with
                | cons y2 y3 =>
                  cases y3
                  cases y1
                  cases y2
                  refine .inr ⟨_, _, _, .type t, [.type u, .type w], b || b', rfl, d, .cons (.ty u) (.cons (.ty w) .nil), tyN_ok q z1 et, ?_, Post.here q (.bl _) p⟩
                  refine kitAny_cons (kit_ty eb) (fun hb => ?_) fun hb => by rw [hb]; rfl
                  rw [hb]
                  exact kitAny_cons (kit_ty eb') (fun hb' => by rw [hb']; exact kitAny_nil) fun hb' => by rw [hb']; rfl
      · exact p.elim
    · exact p.elim
  · exact p.elim
end
end MM
namespace MM
open PySem L2
section
variable {X : Cx} {G : Glob} {W : WX} {r r1 r2 : Ad} {H H1 H2 : Hp} {h h1 : HM} {l : Loc} {s : St} {K : PySem.W.Frag} {a : Addr} {xs : List Val} {vs : List V} {n k : Nat}
inductive Kd where | str | list
  deriving DecidableEq
def Kd.name : Kd → String
  | .str => "str"
  | .list => "list"
def isKd (T : Kd) (v : Val) (h : HM) : Bool := match T, v with
  | .str, .str _ => true
  | .list, v => (seqL v h).isSome
  | _, _ => false
theorem isKd_ok {T : Kd} {v : Val} {x : V} (q : Rel G r h H) (z : VR G r H v x) (e : isKd T v h = true) : tyV K T.name x H := by
  cases T with
  | str => cases z with
    | str x => rfl
    | _ => cases e
  | list =>
    have e : (seqL v h).isSome = true := by cases v <;> exact e
    obtain ⟨xs, ex⟩ := Option.isSome_iff_exists.mp e
    obtain ⟨a, vs, rfl, d, zz⟩ := seqL_ok q z ex
    exact .inl ⟨rfl, vs, .inl (.inl d)⟩
abbrev MOp := Val → List Val → HM → Res Val
def MtdM (X : Cx) (G : Glob) (id : String) (g : MOp) : Prop :=
  ∀ (W : WX) (σ : St), MtR X id fun x vs H Q => ∃ r h o xs, Rel G r h H ∧ VR G r H o x ∧ VRs G r H xs vs ∧ Post G W r H σ (VR G) Q (g o xs h)
theorem MtdM.of {id : String} {g : MOp} {R : V → List V → Hp → VK → Prop} (m : MtR X id R) (i : ∀ W σ r h H o x xs vs Q, Rel G r h H → VR G r H o x → VRs G r H xs vs → Post G W r H σ (VR G) Q (g o xs h) → R x vs H Q) : MtdM X G id g :=
  fun W σ0 pins s σ H x vs v us Q I rx rv ⟨r, h, o, xs, q, zo, z, p⟩ => m pins s σ H x vs v us Q I rx rv (i W σ0 r h H o x xs vs Q q zo z p)
def eBm (T : Kd) (g : MOp) (mo : EM) (ma : AM) : EM := fun l h => (mo l h).bind fun o h1 => if isKd T o h1 = true then (ma l h1).bind fun xs h2 => g o xs h2 else .bad
variable {o e : Expr} {es : List Expr} {mo : EM} {ma : AM} {name : Str} {apos cpos : Pos} {id : String} {g : MOp}
theorem me_bm {T : Kd} (hm : MtdM X G id g) (pa : PlainAttrs T.name) (slot : Slot T.name name id) (hty : typeOf (.builtin id) = pure (.type "method_descriptor")) (ho : ME X G W o mo) (ha : MA X G W (e :: es) ma)
    (hbase : attributeBase o name X.env (eval o X.env) = eval o X.env := by rfl)
    (hfew : ((backTo cpos (starEach (e :: es) X.env)).all (fun x => !x.1) && (backToKw cpos (keywordEach [] X.env)).all (fun x => x.1.isSome)
      && decide ((e :: es).length + ([] : List Keyword).length + (if ([] : List Keyword).isEmpty then 0 else 1) < 30)) = true := by rfl)
    (hline : (apos.endLine == cpos.line) = true := by rfl) (hs : starEach (e :: es) X.env = (false, eval e X.env) :: starEach es X.env := by rfl) (hplain : (backTo cpos (starEach es X.env)).any (·.1) = false := by rfl) :
    ME X G W (.Call (.Attribute o name apos) (e :: es) [] cpos) (eBm T g mo ma) := by
  refine ⟨fun pins s σ H Q I ⟨r, h, l, q, hl, pp⟩ => (pe_bm pa slot hty (hm W σ) ho ha hbase hfew hline hs hplain).run pins s σ H Q I ⟨r, h, l, q, hl, (Post.bind pp).imp fun x H1 ⟨r1, h1, w1, e1, q1, z1, p1⟩ => ?_⟩⟩
  dsimp only at p1
  split at p1
  · rename_i hk
    exact ⟨isKd_ok q1 z1 hk, r1, h1, l, q1, hl.ext e1, (Post.bind p1).imp fun vs H2 ⟨r2, h2, w2, e2, q2, z2, p2⟩ => ⟨r2, h2, w1, w2, q2, z1.ext e2, z2, p2⟩⟩
  · exact p1.elim
def strsOf : List Val → Option (List Str)
  | [] => some []
  | x :: xs => match x, strsOf xs with
    | .str b, some bs => some (b :: bs)
    | _, _ => none
theorem strs_ok {bs : List Str} (z : VRs G r H xs vs) (e : strsOf xs = some bs) : vs = bs.map V.str := by
  induction xs generalizing vs bs with
  | nil => cases z; cases e; rfl
  | cons x xs ih =>
    cases z with
    | cons a b =>
      simp only [strsOf] at e
      split at e
      · rename_i b1 bs' e2
        cases e
        cases a
        rw [ih b e2]
        rfl
      · cases e
def mJoin : MOp := fun o xs h => match o, xs with
  | .str a, [v] => (match (seqL v h).bind strsOf with
    | some ys => if (ys.map (·.length)).sum + ys.length * a.length ≤ 16777216 then .ok (.str (Txt.join a ys)) h else .bad
    | none => .bad)
  | _, _ => .bad
theorem mm_join : MtdM X G "str.join" mJoin := .of mt_join fun W σ r h H o x xs vs Q q zo z p => by
  unfold mJoin at p
  split at p
  · rename_i a v
    split at p
    · rename_i ys e
      split at p
      · rename_i hz
        cases zo
        cases z with
        | cons z1 z2 =>
          cases z2
          cases es : seqL v h with
          | none => rw [es] at e; cases e
          | some zs =>
            rw [es] at e
            obtain ⟨b, us, rfl, d, zz⟩ := seqL_ok q z1 es
            have := strs_ok zz e
            subst this
            exact ⟨a, b, ys, rfl, rfl, .inl (.inl (.inl d)), hz, Post.here q (.str _) p⟩
      · exact p.elim
    · exact p.elim
  · exact p.elim
def mAppend : MOp := fun o xs h => match o, xs with
  | .ref n, [y] => (match h[n]? with
    | some (.lst ys) => if ys.length < sizeLine then .ok .non (h.set n (.lst (ys ++ [y]))) else .bad
    | _ => .bad)
  | _, _ => .bad
theorem mm_append : MtdM X G "list.append" mAppend := .of (show MtR X "list.append" rAppend from mt_append) fun W σ r h H o x xs vs Q q zo z p => by
  unfold mAppend at p
  split at p
  · rename_i n y
    split at p
    · rename_i ys hn
      split at p
      · rename_i hz
        cases zo with
        | @ref n a e0 =>
          cases z with
          | cons z1 z2 =>
            cases z2
            obtain ⟨us, d, zz⟩ := q.lst_at e0 hn
            have nf : ∀ o u, H a ≠ some (.frz o u) := fun o u z => by rw [d] at z; cases z
            refine ⟨a, us, _, rfl, rfl, d, by rw [← zz.length]; exact hz, p r _ _ (ext_write q e0 nf) (q.write e0 nf (.lst upd_same ((zz.append (.cons z1 .nil)).ext (ext_write q e0 nf)))) .non⟩
      · exact p.elim
    · exact p.elim
  · exact p.elim
def mPop : MOp := fun o xs h => match o, xs with
  | .ref n, [.int i] => (match h[n]? with
    | some (.lst ys) => if -(2 ^ 63) ≤ i ∧ i < 2 ^ 63 then (match seqIndex? i ys.length with
      | some k => (match ys[k]? with
        | some y => .ok y (h.set n (.lst (ys.eraseIdx k)))
        | none => .bad)
      | none => .bad) else .bad
    | _ => .bad)
  | _, _ => .bad
theorem mm_pop : MtdM X G "list.pop" mPop := .of (show MtR X "list.pop" rPopAt from mt_popAt) fun W σ r h H o x xs vs Q q zo z p => by
  unfold mPop at p
  split at p
  · rename_i n i
    split at p
    · rename_i ys hn
      split at p
      · rename_i hz
        split at p
        · rename_i k hk
          split at p
          · rename_i y hy
            cases zo with
            | @ref n a e0 =>
              cases z with
              | cons z1 z2 =>
                cases z2
                cases z1
                obtain ⟨us, d, zz⟩ := q.lst_at e0 hn
                have nf : ∀ o u, H a ≠ some (.frz o u) := fun o u z => by rw [d] at z; cases z
                obtain ⟨u, hu, zu⟩ := zz.get hy
                refine ⟨a, us, i, k, u, rfl, rfl, d, hz.1, hz.2, by rw [← zz.length]; exact hk, hu, p r _ _ (ext_write q e0 nf) (q.write e0 nf (.lst upd_same ((zz.eraseIdx k).ext (ext_write q e0 nf)))) (zu.ext (ext_write q e0 nf))⟩
          · exact p.elim
        · exact p.elim
      · exact p.elim
    · exact p.elim
  · exact p.elim
variable {f : Expr} {me mf : EM}
def isDict (n : Nat) (h : HM) : Bool := match h[n]? with
  | some (.dK _) => true
  | some (.dT _) => true
  | some (.lK _) => true
  | some (.lT _) => true
  | _ => false
theorem isDict_ok (q : Rel G r h H) (e0 : r.ix[n]? = some a) (e : isDict n h = true) : IsD H a := by
  unfold isDict at e
  split at e
  · rename_i hn; cases q.ob n a _ e0 hn with | dK h1 h2 => exact .inl ⟨_, .inl h1⟩
  · rename_i hn; cases q.ob n a _ e0 hn with | dT h1 h2 => exact .inr ⟨_, .inl h1⟩
  · rename_i hn; cases q.ob n a _ e0 hn with | lK h1 h2 => exact .inl ⟨_, .inr ⟨_, h1⟩⟩
  · rename_i hn; cases q.ob n a _ e0 hn with | lT h1 h2 => exact .inr ⟨_, .inr ⟨_, h1⟩⟩
  · cases e
def eGet2 (mo me mf : EM) : EM := fun l h => (mo l h).bind fun o h1 => match o with
  | .ref n => if isDict n h1 = true then (me l h1).bind fun y h2 => (mf l h2).bind fun z h3 => match dGet n y h3 with
    | some (some v) => .ok v h3
    | some none => .ok z h3
    | none => .bad else .bad
  | _ => .bad
theorem me_get2 (hu : X.A.units + 1 < cLine) (ho : ME X G W o mo) (he : ME X G W e me) (hf : ME X G W f mf) (m : M2 X o "get" apos e f cpos := by exact ⟨rfl, rfl, rfl, rfl⟩) : ME X G W (.Call (.Attribute o "get" apos) [e, f] [] cpos) (eGet2 mo me mf) := by
  refine ⟨fun pins s σ H Q I ⟨r, h, l, q, hl, pp⟩ => (pe_dget2 hu ho he hf m).run pins s σ H Q I ⟨r, h, l, q, hl, (Post.bind pp).imp fun x H1 ⟨r1, h1, w1, e1, q1, z1, p1⟩ => ?_⟩⟩
  cases z1 with
  | @ref n a e0 =>
    dsimp only at p1
    split at p1
    · rename_i hk
      have hd : IsD H1 a := isDict_ok q1 e0 hk
      refine ⟨a, rfl, hd, r1, h1, l, q1, hl.ext e1, (Post.bind p1).imp fun y H2 ⟨r2, h2, w2, e2, q2, z2, p2⟩ => ⟨r2, h2, l, q2, (hl.ext e1).ext e2, (Post.bind p2).imp fun zv H3 ⟨r3, h3, w3, e3, q3, z3, p3⟩ => ?_⟩⟩
      have e0' := pre_get e3.pre (pre_get e2.pre e0)
      dsimp only at p3
      split at p3
      · rename_i v ev
        obtain ⟨u, g, zu⟩ := (dGet_ok q3 e0' (z2.ext e3) ev).1 v rfl
        exact ⟨some u, g, Post.here q3 zu p3⟩
      · rename_i ev
        exact ⟨none, (dGet_ok q3 e0' (z2.ext e3) ev).2 rfl, Post.here q3 z3 p3⟩
      · exact p3.elim
    · exact p1.elim
  | _ => exact p1.elim
def putV {κ : Type} [DecidableEq κ] (kvs : List (κ × Val)) (k : κ) (v : Val) : List (κ × Val) :=
  if (kvs.any fun kv => decide (kv.1 = k)) = true then kvs.map (fun kv => if kv.1 = k then (kv.1, v) else kv) else kvs ++ [(k, v)]
theorem KR.anyk {κ : Type} [DecidableEq κ] {kvs : List (κ × Val)} {kv : List (κ × V)} (q : KR G r H kvs kv) (k : κ) : (kv.any fun p => decide (p.1 = k)) = kvs.any fun p => decide (p.1 = k) := by
  induction q with
  | nil => rfl
  | cons a b ih => rw [List.any_cons, List.any_cons, ih, a.1]
theorem KR.append {κ : Type} {x x' : List (κ × Val)} {y y' : List (κ × V)} (a : KR G r H x y) (b : KR G r H x' y') : KR G r H (x ++ x') (y ++ y') := by
  induction a with
  | nil => exact b
  | cons p q ih => exact .cons p ih
theorem KR.mapk {κ : Type} [DecidableEq κ] (k : κ) {y : Val} {u : V} (z : VR G r H y u) : ∀ {kvs : List (κ × Val)} {kv : List (κ × V)}, KR G r H kvs kv → KR G r H (kvs.map fun kv => if kv.1 = k then (kv.1, y) else kv) (kv.map fun kv => if kv.1 = k then (kv.1, u) else kv)
  | _, _, .nil => .nil
  | p :: _, p' :: _, .cons a b => by
    rw [List.map_cons, List.map_cons]
    refine .cons ?_ (KR.mapk k z b)
    by_cases e : p.1 = k
    · rw [if_pos e, if_pos (a.1 ▸ e)]; exact ⟨a.1, z⟩
    · rw [if_neg e, if_neg (a.1 ▸ e)]; exact a
theorem KR.put {κ : Type} [DecidableEq κ] {kvs : List (κ × Val)} {kv : List (κ × V)} (q : KR G r H kvs kv) (k : κ) {y : Val} {u : V} (z : VR G r H y u) : KR G r H (putV kvs k y) (putK kv k u) := by
  unfold putV L2.putK
  rw [q.anyk k]
  split
  · exact q.mapk k z
  · exact KR.append q (.cons ⟨rfl, z⟩ .nil)
/-- o[i] = v -/
def setI (o i v : Val) (h : HM) : Option HM := match o with
  | .ref n => (match h[n]? with
    | some (.lst xs) => (match i with
      | .int k => (ixN xs.length k).map fun j => h.set n (.lst (xs.set j v))
      | _ => none)
    | some (.dK kvs) => if kvs.length < sizeLine then (keyOf i).map fun k => h.set n (.dK (putV kvs k v)) else none
    | some (.dT kvs) => if kvs.length < sizeLine then (tkey i).map fun k => h.set n (.dT (putV kvs k v)) else none
    | _ => none)
  | _ => none
def sSub (mo mi mv : EM) : SM := fun l h => (mv l h).thn l fun y h1 => (mo l h1).thn l fun o h2 => (mi l h2).thn l fun i h3 => match setI o i y h3 with
  | some h4 => .nx l h4
  | none => .bad
theorem ms_sub {i v : Expr} {mi mv : EM} {pos pos' : Pos} (hu : X.A.units + 1 < cLine) (ho : ME X G W o mo) (hi : ME X G W i mi) (hv : ME X G W v mv) (hs : swapsWith v (some (.Subscript o i pos')) pos.line X.env = pure false := by rfl) :
    MS X G W (.Assign [.Subscript o i pos'] v pos) (sSub mo mi mv) := by
  refine ⟨fun pins s σ H D I ⟨r, h, l, q, hl, p⟩ => ?_⟩
  refine PySem.wpAny_Assign_Subscript (thn (hv.run pins s σ H _ I ⟨r, h, l, q, hl, Post.thn hl p⟩) fun u1 s1 ⟨y, H1, I1, ry, ⟨r1, h1, v1, e1, q1, z1, p1⟩⟩ => thn (ho.run pins s1 σ H1 _ I1 ⟨r1, h1, l, q1, hl.ext e1, Post.thn (hl.ext e1) p1⟩) fun u2 s2 ⟨x, H2, I2, rx, ⟨r2, h2, v2, e2, q2, z2, p2⟩⟩ =>
    thn (hi.run pins s2 σ H2 _ I2 ⟨r2, h2, l, q2, (hl.ext e1).ext e2, Post.thn ((hl.ext e1).ext e2) p2⟩) fun u3 s3 ⟨w, H3, I3, rw', ⟨r3, h3, v3, e3, q3, z3, p3⟩⟩ => ?_) hs
  have zy := (z1.ext e2).ext e3
  have zo := z2.ext e3
  have hl3 := ((hl.ext e1).ext e2).ext e3
  dsimp only at p3
  cases zo with
  | @ref n a e0 =>
    cases hset : setI (.ref n) v3 v1 h3 with
    | none => rw [hset] at p3; exact p3.elim
    | some h4 =>
      rw [hset] at p3
      unfold setI at hset
      dsimp only at hset
      obtain rfl : u2 = Value.ref a := rx
      cases hn : h3[n]? with
      | none => rw [hn] at hset; cases hset
      | some ob =>
        rw [hn] at hset
        have hob := q3.ob n a ob e0 hn
        cases hob with
        | @lst xs vs g1 g2 =>
          have nf : ∀ o u, H3 a ≠ some (.frz o u) := fun o u z => by rw [g1] at z; cases z
          dsimp only at hset
          cases z3 with
          | int k =>
            simp only [Option.map_eq_some_iff] at hset
            obtain ⟨j, hj, rfl⟩ := hset
            refine thn (set_list pins s3 σ H3 (.ref a) (.int k) y _ u3 u1 (D.nx σ) I3 rfl rw' ry ⟨a, vs, k, j, rfl, rfl, g1, by rw [← g2.length]; exact hj, ?_⟩) fun _ s4 ⟨H4, I4, q4⟩ => ⟨σ, H4, I4, q4⟩
            exact p3 r3 _ σ (ext_write q3 e0 nf) (q3.write e0 nf (.lst upd_same ((g2.set j zy).ext (ext_write q3 e0 nf)))) (hl3.ext (ext_write q3 e0 nf))
          | _ => cases hset
        | @dK kvs kv g1 g2 =>
          have nf : ∀ o u, H3 a ≠ some (.frz o u) := fun o u z => by rw [g1] at z; cases z
          dsimp only at hset
          split at hset
          · rename_i hz
            simp only [Option.map_eq_some_iff] at hset
            obtain ⟨kk, hk, rfl⟩ := hset
            have := key_V z3 hk
            subst this
            refine d_setItem hu I3 (.k g1 (by rw [← Paired.length g2]; exact hz)) rw' ry fun s4 I4 => ⟨σ, _, I4, ?_⟩
            exact p3 r3 _ σ (ext_write q3 e0 nf) (q3.write e0 nf (.dK upd_same ((g2.put kk zy).ext (ext_write q3 e0 nf)))) (hl3.ext (ext_write q3 e0 nf))
          · cases hset
        | @dT kvs kv g1 g2 =>
          have nf : ∀ o u, H3 a ≠ some (.frz o u) := fun o u z => by rw [g1] at z; cases z
          dsimp only at hset
          split at hset
          · rename_i hz
            simp only [Option.map_eq_some_iff] at hset
            obtain ⟨kk, hk, rfl⟩ := hset
            cases z3 with
            | tup d oo zz =>
              have := keys_V zz hk
              subst this
              refine d_setItem hu I3 (.t g1 d (by rw [← Paired.length g2]; exact hz)) rw' ry fun s4 I4 => ⟨σ, _, I4, ?_⟩
              exact p3 r3 _ σ (ext_write q3 e0 nf) (q3.write e0 nf (.dT upd_same ((g2.put kk zy).ext (ext_write q3 e0 nf)))) (hl3.ext (ext_write q3 e0 nf))
            | _ => cases hk
          · cases hset
        | _ => cases hset
  | _ => exact p3.elim
end
end MM
namespace MM
open PySem L2
mutual
/-- v' is v, the lists from n on frozen -/
inductive Frz (h : HM) (n : Nat) : Val → Val → Prop
  | non : Frz h n .non .non
  | bl (b : Bool) : Frz h n (.bl b) (.bl b)
  | int (b : Int) : Frz h n (.int b) (.int b)
  | str (b : Str) : Frz h n (.str b) (.str b)
  | fn (b : Nat) : Frz h n (.fn b) (.fn b)
  | ty (b : String) : Frz h n (.ty b) (.ty b)
  | scr (b : List Int) : Frz h n (.scr b) (.scr b)
  | tup {xs ys : List Val} : FrzS h n xs ys → Frz h n (.tup xs) (.tup ys)
  | lst {xs ys : List Val} : FrzS h n xs ys → Frz h n (.lst xs) (.lst ys)
  | ptup {xs ys : List Val} : FrzS h n xs ys → Frz h n (.ptup xs) (.ptup ys)
  | ref {k : Nat} : k < n → Frz h n (.ref k) (.ref k)
  | frz {k : Nat} {xs ys : List Val} : n ≤ k → h[k]? = some (.lst xs) → FrzS h n xs ys → Frz h n (.ref k) (.lst ys)
inductive FrzS (h : HM) (n : Nat) : List Val → List Val → Prop
  | nil : FrzS h n [] []
  | cons {x y : Val} {xs ys : List Val} : Frz h n x y → FrzS h n xs ys → FrzS h n (x :: xs) (y :: ys)
end
def FrzK {κ : Type} (h : HM) (n : Nat) : List (κ × Val) → List (κ × Val) → Prop := Paired fun p q => p.1 = q.1 ∧ Frz h n p.2 q.2
inductive FrzO (h : HM) (n : Nat) : Ob → Ob → Prop
  | lst {xs ys : List Val} : FrzS h n xs ys → FrzO h n (.lst xs) (.lst ys)
  | dK {xs ys : List (Key × Val)} : FrzK h n xs ys → FrzO h n (.dK xs) (.dK ys)
  | dT {xs ys : List (List Key × Val)} : FrzK h n xs ys → FrzO h n (.dT xs) (.dT ys)
  | ins {c : Nat} {xs ys : List Val} : FrzS h n xs ys → FrzO h n (.ins c xs) (.ins c ys)
  | lK {xs ys : List (Key × Val)} : FrzK h n xs ys → FrzO h n (.lK xs) (.lK ys)
  | lT {xs ys : List (List Key × Val)} : FrzK h n xs ys → FrzO h n (.lT xs) (.lT ys)
  | dN {ks : List ((Int × Int) × Int)} : FrzO h n (.dN ks) (.dN ks)
structure FrzH (h : HM) (h' : HM) : Prop where
  le : h'.length ≤ h.length
  ob : ∀ (i : Nat) (o o' : Ob), h[i]? = some o → h'[i]? = some o' → FrzO h h'.length o o'
/-- nothing points beyond -/
def Wf (h : HM) : Prop := ∀ o ∈ h, ∀ h', FrzO h' h.length o o
def Clo (n : Nat) (v : Val) : Prop := ∀ h', Frz h' n v v
def CloS (n : Nat) (v : List Val) : Prop := ∀ h', FrzS h' n v v
/-- what is promised less of -/
inductive Le (h0 : HM) : Res Val → Res Val → Prop
  | bad {x : Res Val} : Le h0 .bad x
  | same {x : Res Val} : Le h0 x x
  | ok {v v' : Val} {h h' : HM} : h0.length ≤ h'.length → FrzH h h' → Frz h h'.length v v' → Le h0 (.ok v' h') (.ok v h)
  | exc {c : Nat} {h h' : HM} : h0.length ≤ h'.length → FrzH h h' → Le h0 (.exc c h') (.exc c h)
section
variable {G : Glob} {r r' : Ad} {h h' : HM} {H H' : Hp} {n : Nat}
def Ad.cut (r : Ad) (n : Nat) : Ad := { r with ix := r.ix.take n }
mutual
theorem VR.clo {v : Val} {u : V} (z : VR G r H v u) : Clo r.ix.length v := by
  match v, u, z with
  | _, _, .non => exact fun _ => .non
  | _, _, .bl b => exact fun _ => .bl b
  | _, _, .int i => exact fun _ => .int i
  | _, _, .str x => exact fun _ => .str x
  | .tup xs, _, .tup dd o q => exact fun h => .tup (q.clo h)
  | .lst xs, _, .lst dd o q => exact fun h => .lst (q.clo h)
  | .ptup xs, _, .ptup dd dn o q => exact fun h => .ptup (q.clo h)
  | _, _, .ref e => exact fun h => .ref (List.getElem?_eq_some_iff.mp e).1
  | _, _, .fn _ => exact fun _ => .fn _
  | _, _, .ty _ => exact fun _ => .ty _
  | _, _, .scr _ => exact fun _ => .scr _
theorem VRs.clo {vs : List Val} {us : List V} (z : VRs G r H vs us) : CloS r.ix.length vs := by
  match vs, us, z with
  | _, _, .nil => exact fun _ => .nil
  | v :: vs, _, .cons q t => exact fun h => .cons (q.clo h) (t.clo h)
end
theorem KR.clo {κ : Type} {x : List (κ × Val)} {y : List (κ × V)} (q : KR G r H x y) (h : HM) : FrzK h r.ix.length x x := by
  induction q with
  | nil => exact .nil
  | cons a b ih => exact .cons ⟨rfl, a.2.clo h⟩ ih
theorem Rel.wf (q : Rel G r h H) : Wf h := by
  intro o ho h'
  obtain ⟨i, hi, e⟩ := List.mem_iff_getElem.mp ho
  obtain ⟨a, _, ob⟩ := q.adr (n := i) (o := o) (by simp [hi, e])
  rw [← q.len]
  cases ob with
  | lst h1 h2 => exact .lst (h2.clo h')
  | dK h1 h2 => exact .dK (h2.clo h')
  | dT h1 h2 => exact .dT (h2.clo h')
  | ins h1 h2 h3 h4 => exact .ins (h4.clo h')
  | lK h1 h2 => exact .lK (h2.clo h')
  | lT h1 h2 => exact .lT (h2.clo h')
  | dN h1 h2 h3 => exact .dN
theorem cut_at {k : Nat} {a : Addr} (e : r.ix[k]? = some a) (hk : k < n) : (r.cut n).ix[k]? = some a := by
  show (r.ix.take n)[k]? = some a
  rw [List.getElem?_take]
  simp [hk, e]
theorem cut_out {a : Addr} (o : r.out a) : (r.cut n).out a := ⟨fun m => o.1 (List.mem_of_mem_take m), o.2⟩
theorem cut_out2 (q : Rel G r h H) {k : Nat} {a : Addr} (e : r.ix[k]? = some a) (hk : n ≤ k) : (r.cut n).out a := by
  refine ⟨fun m => ?_, fun m => (q.hid a m).1 (List.mem_of_getElem? e)⟩
  obtain ⟨j, hj, ej⟩ := List.mem_iff_getElem.mp (show a ∈ r.ix.take n from m)
  have hj' : j < n := by simp at hj; omega
  have : r.ix[j]? = some a := by
    rw [List.getElem_take] at ej
    have : j < r.ix.length := by simp at hj; omega
    simp [this, ej]
  have := nodup_ixA q.nd this e
  omega
mutual
theorem VR.frz (q : Rel G r h H) {v v' : Val} {u : V} (z : VR G r H v u) (f : Frz h n v v') : VR G (r.cut n) H v' u := by
  match v, v', f with
  | _, _, .non => cases z; exact .non
  | _, _, .bl b => cases z; exact .bl b
  | _, _, .int i => cases z; exact .int i
  | _, _, .str x => cases z; exact .str x
  | _, _, .fn x => cases z with | fn e => exact .fn e
  | _, _, .ty x => cases z; exact .ty x
  | _, _, .scr x => cases z with | scr e => exact .scr (e.imp (fun z => ⟨z.1, cut_out z.2⟩) fun z => z)
  | _, _, .tup fs => cases z with | tup d o zz => exact .tup d (cut_out o) (VRs.frz q zz fs)
  | _, _, .lst fs => cases z with | lst d o zz => exact .lst d (cut_out o) (VRs.frz q zz fs)
  | _, _, .ptup fs => cases z with | ptup d dn o zz => exact .ptup d dn (cut_out o) (VRs.frz q zz fs)
  | _, _, .ref hk => cases z with | ref e => exact .ref (cut_at e hk)
  | _, _, .frz hk hn fs => cases z with
    | ref e =>
      obtain ⟨vs, d, zz⟩ := q.lst_at e hn
      exact .lst d (cut_out2 q e hk) (VRs.frz q zz fs)
theorem VRs.frz (q : Rel G r h H) {v v' : List Val} {u : List V} (z : VRs G r H v u) (f : FrzS h n v v') : VRs G (r.cut n) H v' u := by
  match v, v', f with
  | _, _, .nil => cases z; exact .nil
  | _, _, .cons a b => cases z with | cons x y => exact .cons (VR.frz q x a) (VRs.frz q y b)
end
theorem KR.frz {κ : Type} (q : Rel G r h H) {x x' : List (κ × Val)} {y : List (κ × V)} (z : KR G r H x y) (f : FrzK h n x x') : KR G (r.cut n) H x' y := by
  induction f generalizing y with
  | nil => cases z; exact .nil
  | cons a b ih => cases z with | cons c d => exact .cons ⟨a.1.symm.trans c.1, c.2.frz q a.2⟩ (ih d)
theorem Rel.frz (q : Rel G r h H) (f : FrzH h h') : Rel G (r.cut h'.length) h' H := by
  refine ⟨q.nd.sublist (List.take_sublist _ _), ?_, fun a m => ⟨fun m2 => (q.hid a m).1 (List.mem_of_mem_take m2), (q.hd a m).2⟩, fun i a o e1 e2 => ?_, q.lk, fun i a o e1 e2 hw => ?_⟩
  · show (r.ix.take _).length = _
    rw [List.length_take, q.len]
    have := f.le
    omega
  · have e1' : r.ix[i]? = some a := by
      have e1 : (r.ix.take h'.length)[i]? = some a := e1
      rw [List.getElem?_take] at e1
      split at e1
      · exact e1
      · cases e1
    obtain ⟨o0, ho, ob⟩ := q.at_ e1'
    have fo := f.ob i o0 o ho e2
    cases fo with
    | lst fs => cases ob with | lst h1 h2 => exact .lst h1 (h2.frz q fs)
    | dK fs => cases ob with | dK h1 h2 => exact .dK h1 (h2.frz q fs)
    | dT fs => cases ob with | dT h1 h2 => exact .dT h1 (h2.frz q fs)
    | ins fs => cases ob with | ins h1 h2 h3 h4 => exact .ins h1 h2 h3 (h4.frz q fs)
    | lK fs => cases ob with | lK h1 h2 => exact .lK h1 (h2.frz q fs)
    | lT fs => cases ob with | lT h1 h2 => exact .lT h1 (h2.frz q fs)
    | dN => cases ob with | dN h1 h2 h3 => exact .dN h1 h2 fun x hx => ⟨(h3 x hx).1, cut_out (h3 x hx).2.1, (h3 x hx).2.2.1, cut_out (h3 x hx).2.2.2⟩
  · have e1' : r.ix[i]? = some a := by
      have e1 : (r.ix.take h'.length)[i]? = some a := e1
      rw [List.getElem?_take] at e1
      split at e1
      · exact e1
      · cases e1
    obtain ⟨o0, ho, ob⟩ := q.at_ e1'
    have fo := f.ob i o0 o ho e2
    refine q.lo i a o0 e1' ho ?_
    cases fo <;> exact hw
theorem Ext.cut (e : Ext r H r' H') (hn : r.ix.length ≤ n) : Ext r H (r'.cut n) H' := by
  refine ⟨⟨?_, fun a u z o => ⟨(e.keep a u z o).1, cut_out (e.keep a u z o).2⟩⟩, e.hid, e.hk, e.lkk, e.lks⟩
  obtain ⟨t, ht⟩ := e.pre
  show r.ix <+: r'.ix.take n
  rw [← ht, List.take_append, List.take_of_length_le hn]
  exact List.prefix_append _ _
theorem Le.post {Q : VK} {E : XK} {x x' : Res Val} (le : Le h x' x) (q : Rel G r h H) (p : PostF G r H Q E x') : PostF G r H Q E x := by
  cases le with
  | bad => exact p.elim
  | same => exact p
  | ok hn fh fv => exact fun r' H' u e q' z => p _ H' u (e.cut (by rw [q.len]; exact hn)) (q'.frz fh) (z.frz q' fv)
  | exc hn fh => exact fun r' H' C e q' z => p _ H' C (e.cut (by rw [q.len]; exact hn)) (q'.frz fh) z
/-- m may be taken for m' -/
theorem FnM.le {P : Program} {w : World} {K : PySem.W.Frag} {mg : Str → Option Value} {base : Heap} {k : Nat} {f : Addr} {m m' : FM} (F : FnM P w K mg base G k f n m)
    (hl : ∀ xs h, xs.length = n → Wf h → CloS h.length xs → Le h (m' xs h) (m xs h)) : FnM P w K mg base G k f n m' :=
  F.imp fun r h H xs vs Q E q z hx p => (hl xs h hx q.wf (by rw [← q.len]; exact z.clo)).post q p
/-- what stands beyond is forgotten -/
theorem Wf.cut (w : Wf h) (g : HM) : FrzH (h ++ g) h := ⟨by simp, fun i o o' e1 e2 => by
  have hi : i < h.length := (List.getElem?_eq_some_iff.mp e2).1
  rw [List.getElem?_append_left hi] at e1
  rw [e1] at e2
  cases e2
  exact w o (List.mem_of_getElem? e1) _⟩
theorem Le.pure {v v' : Val} {g : HM} (w : Wf h) (f : Frz (h ++ g) h.length v v') : Le h (.ok v' h) (.ok v (h ++ g)) := .ok (Nat.le_refl _) (w.cut g) f
end
theorem tk0 {X : Cx} : Takes X W0 := fun _ _ ⟨_, _, _, _, _, _, _, _, _, _, _, _, _, _, _, _, w⟩ => w.elim
theorem FnM.at_ {P : Program} {w : World} {K : PySem.W.Frag} {mg : Str → Option Value} {base : Heap} {G : Glob} {k : Nat} {f : Addr} {x qual : Str} {params : Arguments} {body : List Stmt} {scope : Scope} {fd : FuncData} {N ps : List Str} {b : SM} (F : FunD K x qual params body scope [] [] f fd) (S : FnScope N ps scope)
    (hbody : ∀ (cdv : Value) (A : Around) (outer : List Env) (s : Shared) (H : Hp) (E : XK), Room k (A.deeper (PyProof.Rows.envOfC qual scope s.heap.objs.size f cdv)) →
      MSs (cxOf (L2.CX P w) P w K mg base N qual scope f cdv A outer s H E) G (fun cls d _ H => E cls d H) body b) : FnOk P w K mg base (L2.CX P w) (k + 1) f fd ps (spM G ps.length (mF N.length b)) := by
  refine F.ok S (fun vs H Q E h => h.1) (fun cdv A outer s H vs Q E hr h => ⟨_, hbody cdv A outer s H E hr, ?_⟩)
  obtain ⟨hl, r, h1, xs, q, z, p⟩ := h
  refine ⟨r, h1, _, q, z.start N, ?_⟩
  unfold mF at p
  revert p
  cases b (xs.map some ++ List.replicate (N.length - xs.length) none) h1 with
  | nx l h2 => exact fun p r' H' s' e q' _ => p r' H' _ e q' .non
  | rt v h2 => exact fun p => p
  | exc c l h2 => exact fun p r' H' s' C e q' _ g => p r' H' C e q' g
  | bad => exact fun p => p
theorem law_start {G : Glob} {m : FM} {H : Hp} {a : Addr} {ns : List Int} {h' : HM} (hS : SqL G.K H a (ns.map V.int)) (e : m [.scr ns] [] = .ok (.bl true) h') : spM G 1 m [.ref a] H (fun v _ => v = .bl true) fun _ _ _ => False := by
  refine ⟨rfl, ⟨[], [], []⟩, [], [.scr ns], ⟨List.nodup_nil, rfl, fun a m => (by cases m), fun n a o e => (by simp at e), fun a m => (by cases m), fun n a o e => (by simp at e)⟩, .cons (.scr ?_) .nil, ?_⟩
  · rcases hS with hS | hS
    · exact .inl ⟨hS, by simp [Ad.out]⟩
    · exact .inr fun H' => .inr hS
  · rw [e]
    intro r' H' u _ _ z
    cases z
    rfl
end MM
namespace MM
open PySem L2
theorem u1 {k : Nat} {A : Around} (hr : Room k A) : A.units + 1 < cLine := by have := hr.units; omega
end MM
namespace L2
open PySem
theorem Room.u1 {k : Nat} {A : Around} (hr : Room k A) : A.units + 1 < cLine := by have := hr.units; omega
theorem Room.u65 {k : Nat} {A : Around} (hr : Room k A) : A.units + 65 < cLine := by have := hr.un; omega
theorem Room.u200 {k : Nat} {A : Around} (hr : Room k A) : A.units + 200 < cLine := by have := hr.un; omega
end L2
namespace MM
open PySem L2
section
variable {X : Cx} {G : Glob} {W : WX} {r r1 r2 : Ad} {H H1 H2 : Hp} {h h1 : HM} {l : Loc} {s : St} {K : PySem.W.Frag} {a : Addr} {xs : List Val} {vs : List V} {n k : Nat} {pos : Pos} {e : Expr} {me : EM}
def eDictK : EM := fun _ h => .ok (.ref h.length) (h ++ [.dK []])
def eDictT : EM := fun _ h => .ok (.ref h.length) (h ++ [.dT []])
theorem post_alloc {Q : VK} {o : HO} {u : Ob} {a : Addr} (q : Rel G r h H) (n : H a = none) (z : ObR G (r.push a) (upd H a o) a u) (p : Post G W r H s (VR G) Q (.ok (.ref h.length) (h ++ [u]))) (hu : isLk u = false := by rfl) : Q (.ref a) (upd H a o) :=
  p (r.push a) _ _ (ext_alloc q n) (q.alloc n z hu) (.ref (by rw [← q.len]; exact get_last))
theorem me_dictK : ME X G W (.Dict [] [] pos) eDictK := ⟨fun pins s σ H Q I ⟨r, h, l, q, hl, p⟩ => pe_dnewK.run pins s σ H Q I fun a n => post_alloc q n (.dK upd_same .nil) p⟩
theorem me_dictT : ME X G W (.Dict [] [] pos) eDictT := ⟨fun pins s σ H Q I ⟨r, h, l, q, hl, p⟩ => pe_dnewT.run pins s σ H Q I fun a n => post_alloc q n (.dT upd_same .nil) p⟩
def eNegM (m : EM) : EM := fun l h => (m l h).bind fun v h1 => match v with
  | .int i => .ok (.int (-i)) h1
  | _ => .bad
theorem me_neg (he : ME X G W e me) : ME X G W (.UnaryOp .USub e pos) (eNegM me) :=
  ⟨fun pins s σ H Q I ⟨r, h, l, q, hl, p⟩ => (pe_un un_neg he).run pins s σ H Q I ⟨r, h, l, q, hl, (Post.bind p).imp fun x H1 ⟨r1, h1, w1, e1, q1, z1, p1⟩ => by
    cases z1 with
    | int i => exact ⟨i, rfl, Post.here q1 (.int _) p1⟩
    | _ => exact p1.elim⟩⟩
def bTuple : BOp := fun xs h => match xs with
  | [.tup ys] => .ok (.tup ys) h
  | [.ptup ys] => .ok (.ptup ys) h
  | [v] => (match seqL v h with
    | some ys => .ok (.tup ys) h
    | none => .bad)
  | _ => .bad
theorem cm_tuple : CallM X G (.type "tuple") bTuple := .of call_tuple_of fun W σ r h H xs vs Q q z p => by
  unfold bTuple at p
  split at p
  · cases z with
    | cons z1 z2 =>
      cases z2
      cases z1 with
      | tup d o zz => exact ⟨_, _, rfl, .inr ⟨.inl (.inl d), Post.here q (.tup d o zz) p⟩⟩
  · cases z with
    | cons z1 z2 =>
      cases z2
      cases z1 with
      | ptup d dn o zz => exact ⟨_, _, rfl, .inr ⟨.inl (.inr ⟨_, d⟩), Post.here q (.ptup d dn o zz) p⟩⟩
  · split at p
    · rename_i ys e
      cases z with
      | cons z1 z2 =>
        cases z2
        obtain ⟨a, us, rfl, d, zz⟩ := seqL_ok q z1 e
        exact ⟨a, us, rfl, .inl ⟨.inl (.inl d), fun b n => p r _ _ (ext_new q n) (q.laid n) (.tup upd_same (q.new n) (zz.ext (ext_new q n)))⟩⟩
    · exact p.elim
  · exact p.elim
def keyV : Key → Val
  | .inl i => .int i
  | .inr x => .str x
theorem vr_key (k : Key) : VR G r H (keyV k) (kV k) := by cases k with
  | inl i => exact .int i
  | inr x => exact .str x
theorem KR.keysV {kvs : List (Key × Val)} {kv : List (Key × V)} (q : KR G r H kvs kv) : VRs G r H (kvs.map fun p => keyV p.1) (kv.map fun p => kV p.1) := by
  induction q with
  | nil => exact .nil
  | cons a b ih => exact .cons (by show VR _ _ _ (keyV _) (kV _); rw [a.1]; exact vr_key _) ih
def intsOf : List Val → Option (List Int)
  | [] => some []
  | x :: xs => match x, intsOf xs with
    | .int b, some bs => some (b :: bs)
    | _, _ => none
theorem ints_ok {bs : List Int} (z : VRs G r H xs vs) (e : intsOf xs = some bs) : vs = bs.map V.int := by
  induction xs generalizing vs bs with
  | nil => cases z; cases e; rfl
  | cons x xs ih =>
    cases z with
    | cons a b =>
      simp only [intsOf] at e
      split at e
      · rename_i b1 bs' e2
        cases e
        cases a
        rw [ih b e2]
        rfl
      · cases e
def maxL : List Int → Int
  | [] => 0
  | x :: xs => xs.foldl max x
theorem foldl_max (xs : List Int) : ∀ x : Int, (xs.foldl max x = x ∨ xs.foldl max x ∈ xs) ∧ x ≤ xs.foldl max x ∧ ∀ y ∈ xs, y ≤ xs.foldl max x := by
  induction xs with
  | nil => intro x; simp
  | cons z xs ih =>
    intro x
    obtain ⟨a, b, c⟩ := ih (max x z)
    simp only [List.foldl_cons, List.mem_cons]
    refine ⟨?_, by omega, fun y hy => ?_⟩
    · rcases a with a | a
      · rw [a]; rcases Int.le_total x z with h | h
        · rw [Int.max_eq_right h]; exact .inr (.inl rfl)
        · rw [Int.max_eq_left h]; exact .inl rfl
      · exact .inr (.inr a)
    · rcases hy with rfl | hy
      · omega
      · exact c y hy
def bMax : BOp := fun xs h => match xs with
  | [.int i, .int j] => .ok (.int (if j > i then j else i)) h
  | [v] => (match (seqL v h).bind intsOf with
    | some (x :: ns) => .ok (.int (maxL (x :: ns))) h
    | _ => .bad)
  | _ => .bad
theorem ints_seq {v : Val} {x : V} {bs : List Int} (q : Rel G r h H) (z : VR G r H v x) (e : (seqL v h).bind intsOf = some bs) : ∃ a, x = .ref a ∧ SqL K H a (bs.map V.int) := by
  cases es : seqL v h with
  | none => rw [es] at e; cases e
  | some ys =>
    rw [es] at e
    obtain ⟨a, vs, rfl, d, zz⟩ := seqL_ok q z es
    have := ints_ok zz e
    subst this
    exact ⟨a, rfl, .inl (.inl d)⟩
theorem cm_max (hc : X.calm = true) : CallM X G (.builtin "max") bMax := .of (CallR.or (call_max2 hc) (cr_max hc)) fun W σ r h H xs vs Q q z p => by
  unfold bMax at p
  split at p
  · cases z with
    | cons z1 z2 => cases z2 with | cons z2 z3 => cases z3; cases z1; cases z2; exact .inl ⟨_, _, rfl, Post.here q (.int _) p⟩
  · split at p
    · rename_i x ns e
      cases z with
      | cons z1 z2 =>
        cases z2
        obtain ⟨a, rfl, d⟩ := ints_seq (K := X.K) q z1 e
        refine .inr ⟨a, x :: ns, rfl, d, by simp, fun m hm hy => ?_⟩
        have : m = maxL (x :: ns) := by
          obtain ⟨b1, b2, b3⟩ := foldl_max ns x
          have h1 : maxL (x :: ns) ∈ x :: ns := by
            show ns.foldl max x ∈ _
            rcases b1 with b1 | b1
            · rw [b1]; exact List.mem_cons_self
            · exact List.mem_cons_of_mem _ b1
          have h2 := hy _ h1
          have h3 : m ≤ maxL (x :: ns) := by
            rcases List.mem_cons.mp hm with rfl | hm
            · exact b2
            · exact b3 m hm
          omega
        rw [this]
        exact Post.here q (.int _) p
    · exact p.elim
  · exact p.elim
def bStr : BOp := fun xs h => match xs with
  | [.int i] => if i.natAbs.log2 < 1920 then .ok (.str (toString i)) h else .bad
  | _ => .bad
theorem cm_str : CallM X G (.type "str") bStr := .of call_str_int fun W σ r h H xs vs Q q z p => by
  unfold bStr at p
  split at p
  · split at p
    · rename_i hz
      cases z with | cons z1 z2 => cases z2; cases z1; exact ⟨_, rfl, hz, Post.here q (.str _) p⟩
    · exact p.elim
  · exact p.elim
def lockO : Ob → Option Ob
  | .dK kvs => some (.lK kvs)
  | .dT kvs => some (.lT kvs)
  | _ => none
/-- which: the walked dict's expression, read ahead -/
def eLock (which m : EM) : EM := fun l h => match which l h with
  | .ok (.ref n) _ => (match h[n]? with
    | some o => (match lockO o with
      | some o' => (match m l (h.set n o') with
        | .ok v h' => .ok v (h'.set n o)
        | _ => .bad)
      | none => .bad)
    | none => .bad)
  | _ => .bad
theorem lock_ob {n : Nat} {o o' : Ob} (q : Rel G r h H) (e0 : r.ix[n]? = some a) (hn : h[n]? = some o) (ho : lockO o = some o') :
    ∃ u, H a = some u ∧ Mut (some u) ∧ (∀ o u', u ≠ .frz o u') ∧ (∀ od r2 H2, Ex r H r2 H2 → H2 a = some (.frz od u) → ObR G r2 H2 a o') ∧ ∀ r2 H2, Ex r H r2 H2 → H2 a = some u → ObR G r2 H2 a o := by
  cases q.ob n a o e0 hn with
  | dK h1 h2 => cases ho; exact ⟨_, h1, trivial, fun _ _ z => (nomatch z), fun od r2 H2 e z => .lK z (h2.ex e), fun r2 H2 e z => .dK z (h2.ex e)⟩
  | dT h1 h2 => cases ho; exact ⟨_, h1, trivial, fun _ _ z => (nomatch z), fun od r2 H2 e z => .lT z (h2.ex e), fun r2 H2 e z => .dT z (h2.ex e)⟩
  | _ => cases ho
/-- locking and unlocking -/
theorem lock_core {n : Nat} {o o' : Ob} (q : Rel G r h H) (hn : h[n]? = some o) (ho : lockO o = some o') : ∃ a u, H a = some u ∧ Mut (some u) ∧ ∀ od, Ex r H { r with lk := a :: r.lk } (upd H a (.frz od u)) ∧ Rel G { r with lk := a :: r.lk } (h.set n o') (upd H a (.frz od u)) ∧
    ∀ r' h' H', Ext { r with lk := a :: r.lk } (upd H a (.frz od u)) r' H' → Rel G r' h' H' → H' a = some (.frz od u) ∧ Ext r H { r' with lk := r.lk } (upd H' a u) ∧ Rel G { r' with lk := r.lk } (h'.set n o) (upd H' a u) ∧ Ex r' H' { r' with lk := r.lk } (upd H' a u) := by
  obtain ⟨a, e0, ob⟩ := q.adr hn
  obtain ⟨u, hu, mu, nf, lk, ul⟩ := lock_ob q e0 hn ho
  have nfa : ∀ o u', H a ≠ some (.frz o u') := fun o u' z => by rw [hu] at z; cases z; exact nf _ _ rfl
  refine ⟨a, u, hu, mu, fun od => ?_⟩
  have hlt : n < h.length := (List.getElem?_eq_some_iff.mp hn).1
  have x1 : Ex r H { r with lk := a :: r.lk } (upd H a (.frz od u)) := ⟨List.prefix_refl _, fun b w z m => ⟨by
    have hne : b ≠ a := fun ee => m.1 (by rw [ee]; exact List.mem_of_getElem? e0)
    rw [upd_ne hne]; exact z, m⟩⟩
  have q1 : Rel G { r with lk := a :: r.lk } (h.set n o') (upd H a (.frz od u)) := by
    refine ⟨q.nd, by simp [q.len], fun b m => ⟨(q.hid b m).1, ?_⟩, fun m b w h1 h2 => ?_, fun b m => ?_, fun m b w h1 h2 hw => ?_⟩
    · have hne : b ≠ a := fun ee => (q.hid b m).1 (by rw [ee]; exact List.mem_of_getElem? e0)
      rw [upd_ne hne]
      exact (q.hd b m).2
    · have h1 : r.ix[m]? = some b := h1
      by_cases hm : m = n
      · subst hm
        have hb : b = a := by rw [e0] at h1; exact (Option.some.inj h1).symm
        subst hb
        rw [List.getElem?_set_self hlt] at h2
        cases h2
        exact lk od _ _ x1 upd_same
      · rw [List.getElem?_set_ne (Ne.symm hm)] at h2
        refine (q.ob m b w h1 h2).ex x1 ?_
        rw [upd_ne]
        intro ee
        subst ee
        exact hm (nodup_ixA q.nd h1 e0)
    · rcases List.mem_cons.mp m with rfl | m
      · exact ⟨fun z => (q.hid _ z).1 (List.mem_of_getElem? e0), od, u, upd_same⟩
      · exact q.lk_upd nfa b m
    · have h1 : r.ix[m]? = some b := h1
      by_cases hm : m = n
      · subst hm
        have hb : b = a := by rw [e0] at h1; exact (Option.some.inj h1).symm
        rw [hb]; exact List.mem_cons_self
      · rw [List.getElem?_set_ne (Ne.symm hm)] at h2
        exact List.mem_cons_of_mem _ (q.lo m b w h1 h2 hw)
  refine ⟨x1, q1, fun r' h' H' e' q' => ?_⟩
  have ha' : H' a = some (.frz od u) := (e'.lks a List.mem_cons_self).trans upd_same
  have e0' : r'.ix[n]? = some a := pre_get e'.pre e0
  have x2 : Ex r' H' { r' with lk := r.lk } (upd H' a u) := ⟨List.prefix_refl _, fun b w z m => ⟨by
    have hne : b ≠ a := fun ee => m.1 (by rw [ee]; exact List.mem_of_getElem? e0')
    rw [upd_ne hne]; exact z, m⟩⟩
  have x3 : Ex r H { r' with lk := r.lk } (upd H' a u) := (x1.trans e'.toEx).trans x2
  have nlk : ∀ b ∈ r.lk, b ≠ a := fun b m ee => by
    obtain ⟨_, o2, u2, z⟩ := q.lk b m
    exact nfa o2 u2 (ee ▸ z)
  have ext : Ext r H { r' with lk := r.lk } (upd H' a u) := ⟨x3, e'.hid, fun b m => by
    have hne : b ≠ a := fun ee => (q.hid b m).1 (ee ▸ List.mem_of_getElem? e0)
    rw [upd_ne hne]
    exact (e'.hk b m).trans (upd_ne hne), rfl, fun b m => by
    rw [upd_ne (nlk b m)]
    exact (e'.lks b (List.mem_cons_of_mem _ m)).trans (upd_ne (nlk b m))⟩
  have hlt' : n < h'.length := by rw [← q'.len]; exact (List.getElem?_eq_some_iff.mp e0').1
  have q2 : Rel G { r' with lk := r.lk } (h'.set n o) (upd H' a u) := by
    refine ⟨q'.nd, by simp [q'.len], fun b m => ⟨(q'.hid b m).1, ?_⟩, fun m b w h1 h2 => ?_, fun b m => ?_, fun m b w h1 h2 hw => ?_⟩
    · have hne : b ≠ a := fun ee => (q'.hid b m).1 (ee ▸ List.mem_of_getElem? e0')
      rw [upd_ne hne]
      exact (q'.hd b m).2
    · by_cases hm : m = n
      · subst hm
        have : b = a := by
          have h1 : r'.ix[m]? = some b := h1
          rw [e0'] at h1; exact (Option.some.inj h1).symm
        subst this
        rw [List.getElem?_set_self hlt'] at h2
        cases h2
        exact ul _ _ x3 upd_same
      · rw [List.getElem?_set_ne (Ne.symm hm)] at h2
        refine (q'.ob m b w h1 h2).ex x2 ?_
        rw [upd_ne]
        intro ee
        subst ee
        exact hm (nodup_ixA q'.nd h1 e0')
    · have hl2 := q'.lk b (by rw [e'.lkk]; exact List.mem_cons_of_mem _ m)
      refine ⟨hl2.1, ?_⟩
      rw [upd_ne (nlk b m)]
      exact hl2.2
    · have h1 : r'.ix[m]? = some b := h1
      by_cases hm : m = n
      · subst hm
        rw [List.getElem?_set_self hlt'] at h2
        cases h2
        exact absurd hw (by cases o <;> first | (cases ho; done) | simp [isLk])
      · rw [List.getElem?_set_ne (Ne.symm hm)] at h2
        have := q'.lo m b w h1 h2 hw
        rw [e'.lkk] at this
        rcases List.mem_cons.mp this with ee | mm
        · exact absurd (nodup_ixA q'.nd (ee ▸ h1) e0') hm
        · exact mm
  exact ⟨ha', ext, q2, x2⟩
theorem me_lock {which : EM} (he : ME X G W e me) : ME X G W e (eLock which me) := by
  refine ⟨fun pins s σ H Q I ⟨r, h, l, q, hl, p⟩ => (pe_lock he).run pins s σ H Q I ?_⟩
  unfold eLock at p
  split at p
  · rename_i n h0 hw
    split at p
    · rename_i o hn
      split at p
      · rename_i o' ho
        obtain ⟨a, u, hu, mu, co⟩ := lock_core q hn ho
        refine ⟨a, u, hu, mu, fun od => ?_⟩
        obtain ⟨x1, q1, co⟩ := co od
        refine ⟨_, _, l, q1, hl.ex x1, ?_⟩
        cases em : me l (h.set n o') with
        | ok v h' =>
          rw [em] at p
          intro r' H' b e' q' z'
          obtain ⟨ha', ext, q2, x2⟩ := co r' h' H' e' q'
          exact ⟨ha', p _ _ b ext q2 (z'.ex x2)⟩
        | exc c h' => rw [em] at p; exact p.elim
        | bad => rw [em] at p; exact p.elim
      · exact p.elim
    · exact p.elim
  · exact p.elim
/-- the same of a statement -/
def sLock (which : EM) (m : SM) : SM := fun l h => match which l h with
  | .ok (.ref n) _ => (match h[n]? with
    | some o => (match lockO o with
      | some o' => (match m l (h.set n o') with
        | .nx l' h' => .nx l' (h'.set n o)
        | .rt v h' => .rt v (h'.set n o)
        | _ => .bad)
      | none => .bad)
    | none => .bad)
  | _ => .bad
/-- the keys of a locked dict -/
def keysSrc (v : Val) (h : HM) : Res Src := match v with
  | .ref n => (match h[n]? with
    | some (.lK kvs) => .ok (srcItems (kvs.map fun p => keyV p.1)) h
    | some (.lT kvs) => .ok (srcItems (kvs.map fun p => .tup (p.1.map keyV))) h
    | _ => .bad)
  | _ => .bad
def iKeysA (m : EM) : IM := fun l h => (m l h).bind keysSrc
theorem vr_tkey (ks : List Key) : VRs G r H (ks.map keyV) (ks.map kV) := by
  induction ks with
  | nil => exact .nil
  | cons k ks ih => exact .cons (vr_key k) ih
theorem out_tup (q : Rel G r h H) {p : Addr} {us : List V} (e : H p = some (.tup us)) : r.out p := by
  refine ⟨fun m => ?_, fun m => ?_⟩
  · obtain ⟨n, hn, en⟩ := List.mem_iff_getElem.mp m
    obtain ⟨o, _, ob⟩ := q.at_ (n := n) (a := p) (by simp [hn, en])
    have hne : ∀ {o : HO}, H p = some o → o = .tup us := fun z => by rw [e] at z; exact (Option.some.inj z).symm
    cases ob <;> (have z := hne ‹_›; cases z)
  · obtain ⟨vs, z⟩ := (q.hd p m).2
    rw [e] at z; cases z
theorem paired_get {α β : Type} {R : α → β → Prop} {xs : List α} {ys : List β} (p : Paired R xs ys) : ∀ {i : Nat} {x : α} {y : β}, xs[i]? = some x → ys[i]? = some y → R x y := by
  induction p with
  | nil => intro i x y e; simp at e
  | cons a b ih =>
    intro i x y e1 e2
    cases i with
    | zero => simp at e1 e2; subst e1 e2; exact a
    | succ i => exact ih (by simpa using e1) (by simpa using e2)
variable {tg : Expr}
theorem mi_keys (he : ME X G W e me) : MI X G W tg e (iKeysA me) := by
  refine ⟨fun pins s σ H R I ⟨r, h, l, q, hl, p⟩ => (pi_keys he).run pins s σ H R I ⟨r, h, l, q, hl, (Post.bind p).imp fun x H1 ⟨r1, h1, w1, e1, q1, z1, p1⟩ => ?_⟩⟩
  cases z1 with
  | @ref n a e0 =>
    dsimp only [keysSrc] at p1
    split at p1
    · rename_i kvs hn
      have ml := q1.lo n a _ e0 hn rfl
      cases q1.ob n a _ e0 hn with
      | @lK o _ kv g1 g2 =>
        refine ⟨a, o, rfl, .inl ⟨kv, g1, Post.here q1 (R := SrcR G) (fun r2 H2 h2 ex lk q2 => ?_) p1⟩⟩
        have ea := (lk a ml).trans g1
        have hlen := Paired.length g2
        refine ⟨fun i x hi ex2 => ?_, fun _ => ⟨ea, by show kv.length ≤ (kvs.map _).length; rw [List.length_map]; omega⟩⟩
        have ex2 : (kvs.map fun p => keyV p.1)[i]? = some x := ex2
        simp only [List.getElem?_map, Option.map_eq_some_iff] at ex2
        obtain ⟨kvi, hkv, rfl⟩ := ex2
        have hlt : i < kv.length := by have := (List.getElem?_eq_some_iff.mp hkv).1; omega
        refine ⟨⟨ea, hlt⟩, fun v H3 ⟨e3, k, v', hk, hv⟩ => ?_⟩
        subst e3 hv
        refine ⟨Ext.refl, q2, ?_⟩
        have : kvi.1 = k := by
          have z := paired_get g2 hkv hk
          exact z.1
        rw [this]
        exact vr_key k
    · rename_i kvs hn
      have ml := q1.lo n a _ e0 hn rfl
      cases q1.ob n a _ e0 hn with
      | @lT o _ kv g1 g2 =>
        refine ⟨a, o, rfl, .inr ⟨kv, g1, Post.here q1 (R := SrcR G) (fun r2 H2 h2 ex lk q2 => ?_) p1⟩⟩
        have ea := (lk a ml).trans g1
        have hlen := Paired.length g2
        refine ⟨fun i x hi ex2 => ?_, fun _ => ⟨ea, by show kv.length ≤ (kvs.map _).length; rw [List.length_map]; omega⟩⟩
        have ex2 : (kvs.map fun p => Val.tup (p.1.map keyV))[i]? = some x := ex2
        simp only [List.getElem?_map, Option.map_eq_some_iff] at ex2
        obtain ⟨kvi, hkv, rfl⟩ := ex2
        have hlt : i < kv.length := by have := (List.getElem?_eq_some_iff.mp hkv).1; omega
        refine ⟨⟨ea, hlt⟩, fun v H3 ⟨e3, k, v', p, hk, hv, hp⟩ => ?_⟩
        subst e3 hv
        refine ⟨Ext.refl, q2, ?_⟩
        have : kvi.1 = k := by
          have z := paired_get g2 hkv hk
          exact z.1
        rw [this]
        exact .tup hp (out_tup q2 hp) (vr_tkey k)
    · exact p1.elim
  | _ => exact p1.elim
end
end MM
namespace MM
open PySem L2 PySem.W
abbrev Tri := Val × V × PyData
section
variable {X : Cx} {G : Glob} {W : WX} {r r1 r2 : Ad} {H H1 H2 : Hp} {h h1 : HM} {l : Loc} {s : Shared} {K : PySem.W.Frag} {a : Addr} {xs : List Val} {vs : List V} {n k : Nat} {pos : Pos} {e : Expr} {me : EM}
def dle (a b : Tri) : Bool := dataLe false (fun t : Tri => t.2.2) a b
/-- what may be sorted -/
structure CanSort (ds : List PyData) : Prop where
  al : AllAlike ds
  so : Sortable ds
  len : ds.length ≤ sizeLine
  dep : ∀ d ∈ ds, d.depth ≤ 60
theorem each_tri {pins : List (Addr × Obj)} {σ : St} {X : Cx} (I : Inv X pins σ H s) : ∀ {bs : List Tri} {its : List Value}, Vals (bs.map (·.2.1)) its → (∀ b ∈ bs, Dp X.K H b.2.1 b.2.2) →
    EachIs (fun u (b : Tri) => RelV b.2.1 u) its bs ∧ EachIs (fun u (b : Tri) => ∃ as, Reads s.heap u b.2.2 as) its bs
  | [], its, rv, _ => by
    rw [List.map_nil] at rv
    cases rv
    exact ⟨.nil, .nil⟩
  | b :: bs, its, rv, h => by
    rw [List.map_cons] at rv
    cases rv with
    | cons r1 r2 =>
      obtain ⟨t1, t2⟩ := each_tri I r2 fun b' m => h b' (List.mem_cons_of_mem _ m)
      exact ⟨.cons r1 t1, .cons (Dp.reads I b.2.2 b.2.1 _ (h b List.mem_cons_self) r1) t2⟩
theorem each_vals : ∀ {bs : List Tri} {out : List Value}, EachIs (fun u (b : Tri) => RelV b.2.1 u) out bs → Vals (bs.map (·.2.1)) out
  | _, _, .nil => .nil
  | _, _, .cons a b => .cons a (each_vals b)
def rSortD (K : PySem.W.Frag) : List V → Hp → VK → Prop := fun vs H Q => ∃ (a : Addr) (bs : List Tri), vs = [V.ref a] ∧ SqL K H a (bs.map (·.2.1)) ∧ (∀ b ∈ bs, Dp K H b.2.1 b.2.2) ∧ CanSort (bs.map (·.2.2)) ∧
  ∀ p, H p = none → Q (.ref p) (upd H p (.lst ((bs.mergeSort dle).map (·.2.1))))
theorem cr_sortD (hu : X.A.units + 200 < cLine) : CallR X (.builtin "sorted") (rSortD X.K) := by
  intro pins s σ H vs us Q I r h
  obtain ⟨a, bs, rfl, hs, hd, hc, q⟩ := h
  obtain ⟨its, rv, hl, hz⟩ := I.list hs
  obtain ⟨u, rfl, ru⟩ := vals1 r
  obtain rfl : u = Value.ref a := ru
  obtain ⟨e1, e2⟩ := each_tri I rv hd
  refine sorted_data (β := Tri) (enc := fun t => t.2.2) hl.isList e1 e2 hc.al hc.so (by simpa using hc.len) (fun b m => ?_) fun out ho he => ?_
  · have := hc.dep b.2.2 (List.mem_map.mpr ⟨b, m, rfl⟩)
    omega
  · obtain ⟨ep, he'⟩ := PyProof.Rows.sortedAll_at s.heap its out.toArray
    have rv2 := each_vals he
    have hlen : (((bs.mergeSort dle)).map (·.2.1)).length ≤ sizeLine := by
      rw [List.length_map, List.length_mergeSort]
      simpa using hc.len
    exact ⟨.ref _, upd H (s.heap.objs.size + 1) (.lst ((bs.mergeSort dle).map (·.2.1))), I.laid (t' := s.toks) (fun _ _ => PyProof.Rows.sortedAll_old) (Nat.le_succ _) ⟨hlen, out, ep, rv2, he'⟩, rfl, q _ (I.hok.fresh (Nat.le_succ _))⟩
/-- sorted(d): the keys -/
theorem sort_src {T : String} {ad fp : Addr} {P : Nat → Value → Prop} {OK : Heap → Prop} {pins : List (Addr × Obj)} {σ : St} {Q : VK} {bs : List Tri} (hu : X.A.units + 200 < cLine) (hcalm : X.calm = true) (I : Inv X pins σ H s) (S : PySem.W.KdlSrc X.prog X.w T ad fp bs.length P OK) (ok : OK s.heap)
    (hd : ∀ b ∈ bs, Dp X.K H b.2.1 b.2.2) (hc : CanSort (bs.map (·.2.2))) (hP : ∀ (acc : Array Value), ItemsOf P acc bs.length → Vals (bs.map (·.2.1)) acc.toList) (q : ∀ p, H p = none → Q (.ref p) (upd H p (.lst ((bs.mergeSort dle).map (·.2.1))))) :
    wpAny (model X.prog X.w) X.A (call (.builtin "sorted") [.ref ad]) (EP X pins σ Q) X.xe s := by
  have hlen0 : bs.length ≤ sizeLine := by simpa using hc.len
  refine Calls.call_function_entry PyProof.Rows.kind_sorted PyProof.Rows.plain_sorted PyProof.Rows.entry_sorted (PyProof.Rows.args_sorted1 _) ?_
  unfold Builtin.«sorted»
  refine wpAny_bind (m := checkCount "sorted" 1 1 _) (wpAny_pure ?_)
  refine wpAny_bind (PySem.W.kdu_collect (A := X.A.in1) S (I.ok.hd hcalm) ok hlen0 fun h' tk acc hk hacc => ?_)
  have rv := hP acc hacc
  have hal : acc.toList.length = bs.length := by have := rv.length; rw [List.length_map] at this; exact this.symm
  have I1 : Inv X pins σ H { s with heap := h', toks := tk } := I.kept hk
  obtain ⟨e1, e2⟩ := each_tri I1 rv hd
  refine wpAny_bind (wpAny_newList ?_ (by rw [hal]; exact hlen0))
  have hoL : (h'.push (PyProof.Rows.seqObj "list" acc.toList.toArray 0)).get? h'.objs.size = some (PyProof.Rows.seqObj "list" acc.toList.toArray 0) := Heap.get?_push_size _ rfl
  show wpAny _ _ _ _ _ { s with heap := h'.push (PyProof.Rows.seqObj "list" acc.toList.toArray 0), toks := tk }
  have e3 : EachIs (fun v (b : Tri) => ∃ as, Reads (PySem.W.sortingHeap (h'.push (PyProof.Rows.seqObj "list" acc.toList.toArray 0)) h'.objs.size acc.toList) v b.2.2 as) acc.toList bs := e2.mono fun v b ⟨as, rd⟩ => ⟨as, PyProof.Rows.Reads.keeps (fun b o eo => by
    have hb : b < h'.objs.size := Heap.lt_size eo
    exact PySem.W.sortingHeap_old (Nat.ne_of_lt hb) (Heap.get?_push_of_some _ eo)) rd⟩
  have hS : PySem.W.SortsAt X.prog X.w X.A.in1.in1 { s with heap := PySem.W.sortingHeap (h'.push (PyProof.Rows.seqObj "list" acc.toList.toArray 0)) h'.objs.size acc.toList, toks := tk } (dataKind (PySem.W.sortingHeap (h'.push (PyProof.Rows.seqObj "list" acc.toList.toArray 0)) h'.objs.size acc.toList) (bs.map (·.2.2))) acc.toList := by
    refine SortsAt.data (s := { s with heap := PySem.W.sortingHeap (h'.push (PyProof.Rows.seqObj "list" acc.toList.toArray 0)) h'.objs.size acc.toList, toks := tk }) (PySem.W.each_map (R := fun v d => ∃ as, Reads (PySem.W.sortingHeap (h'.push (PyProof.Rows.seqObj "list" acc.toList.toArray 0)) h'.objs.size acc.toList) v d as) (fun (t : Tri) => t.2.2) e3) hc.al hc.so fun d m => ?_
    have := hc.dep d m
    show X.A.units + 1 + 1 + d.depth < _
    omega
  refine wpAny_bind (wpAny_holding (wpAny_call_entry PyProof.Rows.slot_list_sort ⟨_, hoL, rfl⟩ PyProof.Rows.entry_list_sort
    (PySem.W.list_sort_vals (s := { s with heap := h'.push (PyProof.Rows.seqObj "list" acc.toList.toArray 0), toks := tk }) hoL hS (by rw [hal]; exact hlen0) ⟨_, rfl, ?_⟩) (PyProof.Rows.args_list_sort _)))
  have he := PySem.W.sortVals_data (h' := PySem.W.sortingHeap (h'.push (PyProof.Rows.seqObj "list" acc.toList.toArray 0)) h'.objs.size acc.toList) (enc := fun (t : Tri) => t.2.2) false e1 e3 hc.al
  have rv2 := each_vals he
  obtain ⟨ep, he'⟩ := PyProof.Rows.sortedHeap_at (vs := acc.toList) (out := (sortVals (dataKind (PySem.W.sortingHeap (h'.push (PyProof.Rows.seqObj "list" acc.toList.toArray 0)) h'.objs.size acc.toList) (bs.map (·.2.2))) false acc.toList acc.toList).toArray) hoL
  have hlen : (((bs.mergeSort dle)).map (·.2.1)).length ≤ sizeLine := by
    rw [List.length_map, List.length_mergeSort]
    exact hlen0
  refine wpAny_pure ⟨_, rfl, .ref h'.objs.size, upd H h'.objs.size (.lst ((bs.mergeSort dle).map (·.2.1))), I1.laid (t' := tk) (fun b u e => ?_) (Nat.le_refl _)
    (show ObjOk X.prog X.w _ _ _ (.lst ((bs.mergeSort dle).map (·.2.1))) from ⟨hlen, _, ep, rv2, he'⟩), rfl, q _ (I1.hok.fresh (Nat.le_refl _))⟩
  have hb : b < h'.objs.size := Heap.lt_size e
  rw [PyProof.Rows.sortedHeap_old (Nat.ne_of_lt hb) (by rw [PyProof.Rows.size_push']; exact Nat.lt_succ_of_lt hb)]
  exact Heap.get?_push_of_some _ e
/-- sorted(d) of keys that are ints or texts -/
def rSortK : List V → Hp → VK → Prop := fun vs H Q => ∃ (a : Addr) (kvs : List (Key × V)) (bs : List Tri), vs = [V.ref a] ∧ Rd H a (.dK kvs) ∧ bs.map (·.2.1) = kvs.map (fun p => kV p.1) ∧ (∀ K, ∀ b ∈ bs, Dp K H b.2.1 b.2.2) ∧ CanSort (bs.map (·.2.2)) ∧
  ∀ p, H p = none → Q (.ref p) (upd H p (.lst ((bs.mergeSort dle).map (·.2.1))))
def rSortT : List V → Hp → VK → Prop := fun vs H Q => ∃ (a : Addr) (kvs : List (List Key × V)), vs = [V.ref a] ∧ Rd H a (.dT kvs) ∧ ∀ ads, IsKeys H kvs ads → ∃ bs : List Tri, bs.map (·.2.1) = ads.map V.ref ∧ (∀ K, ∀ b ∈ bs, Dp K H b.2.1 b.2.2) ∧ CanSort (bs.map (·.2.2)) ∧
  ∀ p, H p = none → Q (.ref p) (upd H p (.lst ((bs.mergeSort dle).map (·.2.1))))
theorem cr_sortK (hu : X.A.units + 200 < cLine) (hcalm : X.calm = true) : CallR X (.builtin "sorted") rSortK := by
  intro pins s σ H vs us Q I r h
  obtain ⟨a, kvs, bs, rfl, hd, hb, hdp, hc, q⟩ := h
  obtain ⟨u, rfl, ru⟩ := vals1 r
  obtain rfl : u = Value.ref a := ru
  obtain ⟨z, lo, us, rel, dd⟩ := dk_rd I.hok hd
  obtain ⟨ep, hat⟩ := dd.dictAt
  have hl : bs.length = us.length := by
    have e := congrArg List.length hb
    rw [List.length_map, List.length_map] at e
    rw [e]; exact Paired.length rel
  have S := PySem.W.kdl_dict (prog := X.prog) (w := X.w) (knd := mixKind X.prog X.w) (kvs := us) (ep := ep) lo
  rw [← hl] at S
  refine sort_src (bs := bs) hu hcalm I S hat (hdp X.K) hc (fun acc hacc => ?_) q
  have hk : us.map (fun p => kV p.1) = bs.map (·.2.1) := by
    rw [hb]
    have e := KV.keys rel
    have e3 : (us.map fun kv => kV kv.1) = (us.map (·.1)).map kV := by rw [List.map_map]; rfl
    have e4 : (kvs.map fun kv => kV kv.1) = (kvs.map (·.1)).map kV := by rw [List.map_map]; rfl
    rw [e3, e4, e]
  rw [← hk]
  refine keys_at (by rw [Array.length_toList, hacc.1, hl]) fun j v e => ?_
  obtain ⟨k, x, e1, e2⟩ := hacc.2 j v (by rw [← Array.getElem?_toList]; exact e)
  exact ⟨k, x, e1, e2⟩
theorem cr_sortT (hu : X.A.units + 200 < cLine) (hcalm : X.calm = true) : CallR X (.builtin "sorted") rSortT := by
  intro pins s σ H vs us Q I r h
  obtain ⟨a, kvs, rfl, hd, hb⟩ := h
  obtain ⟨u, rfl, ru⟩ := vals1 r
  obtain rfl : u = Value.ref a := ru
  obtain ⟨z, hs, ks, pr, o, es, ep, ho, hx, hdt, he, hn⟩ := (show ObjOk X.prog X.w H s.heap a (.dT kvs) from hd.ok I.hok)
  have l1 : es.size = ks.length := size_of_entries he
  have l2 : kvs.length = ks.length := Paired.length pr
  obtain ⟨bs, hbs, hdp, hc, q⟩ := hb _ (isKeys_of pr)
  have l3 : bs.length = ks.length := by
    have e := congrArg List.length hbs
    simpa using e
  have S := kdl_raw (prog := X.prog) (w := X.w) (d := a) (o := o) (es := es) (ep := ep) hs hx hdt
  rw [l1, ← l3] at S
  refine sort_src (bs := bs) hu hcalm I S ho (hdp X.K) hc (fun acc it => ?_) q
  have ea : acc.toList = ks.map fun x => Value.ref x.2.1 := by
    have hl : acc.toList.length = ks.length := by rw [Array.length_toList, it.1]; exact l3
    apply List.ext_getElem?
    intro j
    rw [List.getElem?_map]
    cases hj : acc.toList[j]? with
    | none =>
      have h1 := List.getElem?_eq_none_iff.mp hj
      rw [List.getElem?_eq_none (by omega)]
      rfl
    | some v =>
      obtain ⟨en, hen, hv⟩ := it.2 j v (by rw [← Array.getElem?_toList]; exact hj)
      have qe := entry_at he j
      rw [hen] at qe
      cases hb : ks[j]? with
      | none => rw [hb] at qe; cases qe
      | some x =>
        rw [hb] at qe
        have : en = entryOfKey (tupleKind (mixKind X.prog X.w)) x := Option.some.inj qe
        subst this
        subst hv
        rfl
  rw [hbs, ea]
  have := vals_refs (ks.map fun x => x.2.1)
  rw [List.map_map, List.map_map] at this
  rw [List.map_map]
  exact this
noncomputable def sortV (xs : List Val) (ds : List PyData) : List Val := ((xs.zip ds).mergeSort fun a b => dataLe false (fun t : Val × PyData => t.2) a b).map (·.1)
def sortItems (v : Val) (h : HM) : Option (List Val) := match v with
  | .lst xs => some xs
  | .ref n => (match h[n]? with
    | some (.lst xs) => some xs
    | some (.dK kvs) => some (kvs.map fun p => keyV p.1)
    | some (.dT kvs) => some (kvs.map fun p => .tup (p.1.map keyV))
    | _ => none)
  | _ => none
open Classical in
noncomputable def bSorted : BOp := fun xs h => match xs with
  | [v] => (match sortItems v h with
    | some ys => (match datFs ys with
      | some ds => if CanSort ds then .ok (.lst (sortV ys ds)) h else .bad
      | none => .bad)
    | none => .bad)
  | _ => .bad
theorem tri_sort (bs : List Tri) : (bs.mergeSort dle).map (·.1) = sortV (bs.map (·.1)) (bs.map (·.2.2)) := by
  have e : (bs.map (·.1)).zip (bs.map (·.2.2)) = bs.map fun b => (b.1, b.2.2) := by
    induction bs with
    | nil => rfl
    | cons b bs ih => simp [ih]
  unfold sortV
  rw [e, ← List.map_mergeSort (r := dle) (f := fun b : Tri => (b.1, b.2.2)) (fun a _ b _ => rfl), List.map_map]
  rfl
theorem tri_vrs {G : Glob} {r : Ad} {H : Hp} {bs : List Tri} (h : ∀ b ∈ bs, VR G r H b.1 b.2.1) : VRs G r H (bs.map (·.1)) (bs.map (·.2.1)) := by
  induction bs with
  | nil => exact .nil
  | cons b bs ih => exact .cons (h b List.mem_cons_self) (ih fun b' m => h b' (List.mem_cons_of_mem _ m))
theorem tri_of {G : Glob} {r : Ad} {H : Hp} : ∀ {xs : List Val} {us : List V} {ds : List PyData}, VRs G r H xs us → datFs xs = some ds → ∃ bs : List Tri, bs.map (·.1) = xs ∧ bs.map (·.2.1) = us ∧ bs.map (·.2.2) = ds ∧ ∀ b ∈ bs, VR G r H b.1 b.2.1 ∧ ∀ K, Dp K H b.2.1 b.2.2
  | _, _, _, .nil, e => by cases e; exact ⟨[], rfl, rfl, rfl, fun b m => by cases m⟩
  | x :: xs, u :: us, _, .cons a b, e => by
    simp only [datFs] at e
    split at e
    · rename_i d ds' e1 e2
      cases e
      obtain ⟨bs, h1, h2, h3, h4⟩ := tri_of b e2
      refine ⟨(x, u, d) :: bs, by rw [List.map_cons, h1], by rw [List.map_cons, h2], by rw [List.map_cons, h3], fun b' m => ?_⟩
      rcases List.mem_cons.mp m with rfl | m
      · exact ⟨a, fun K => datF_ok a e1⟩
      · exact h4 b' m
    · cases e
theorem tri_fin {G : Glob} {W : WX} {r : Ad} {h : HM} {H : Hp} {σ : St} {Q : VK} {bs : List Tri} {ys : List Val} {ds : List PyData} (q : Rel G r h H) (h1 : bs.map (·.1) = ys) (h3 : bs.map (·.2.2) = ds) (h4 : ∀ b ∈ bs, VR G r H b.1 b.2.1 ∧ ∀ K, Dp K H b.2.1 b.2.2)
    (p : Post G W r H σ (VR G) Q (.ok (.lst (sortV ys ds)) h)) : ∀ p, H p = none → Q (.ref p) (upd H p (.lst ((bs.mergeSort dle).map (·.2.1)))) := fun b n => by
  subst h1 h3
  rw [← tri_sort] at p
  have zz := tri_vrs (bs := bs.mergeSort dle) fun b' m => (h4 b' (List.mem_mergeSort.mp m)).1
  exact p r _ _ (ext_new q n) (q.laid n) (.lst upd_same (q.new n) (zz.ext (ext_new q n)))
theorem tkeys_vrs {G : Glob} {r : Ad} {h : HM} {H : Hp} (q : Rel G r h H) : ∀ {kvs : List (List Key × Val)} {kv : List (List Key × V)} {ads : List Addr}, KR G r H kvs kv → IsKeys H kv ads → VRs G r H (kvs.map fun p => .tup (p.1.map keyV)) (ads.map V.ref)
  | _, _, _, .nil, ha => by cases ha; exact .nil
  | x :: _, y :: _, _, .cons a b, ha => by
    cases ha with
    | cons c d =>
      refine .cons ?_ (tkeys_vrs q b d)
      show VR _ _ _ (.tup (List.map keyV x.1)) _
      rw [a.1]
      exact .tup c (out_tup q c) (vr_tkey _)
theorem cm_sorted (hu : X.A.units + 200 < cLine) (hc : X.calm = true) : CallM X G (.builtin "sorted") bSorted := .of (CallR.or (cr_sortD hu) (CallR.or (cr_sortK hu hc) (cr_sortT hu hc))) fun W σ r h H xs vs Q q z p => by
  unfold bSorted at p
  split at p
  · rename_i v
    cases z with
    | cons z1 z2 =>
      cases z2
      cases ei : sortItems v h with
      | none => rw [ei] at p; exact p.elim
      | some ys =>
        rw [ei] at p
        dsimp only at p
        cases ed : datFs ys with
        | none => rw [ed] at p; exact p.elim
        | some ds =>
          rw [ed] at p
          dsimp only at p
          by_cases hcs : CanSort ds
          · rw [if_pos hcs] at p
            have seq : ∀ {a us}, H a = some (.lst us) → VRs G r H ys us → rSortD X.K [.ref a] H Q := fun {a us} d zz => by
              obtain ⟨bs, h1, h2, h3, h4⟩ := tri_of zz ed
              exact ⟨a, bs, rfl, by rw [h2]; exact .inl (.inl d), fun b m => (h4 b m).2 X.K, by rw [h3]; exact hcs, tri_fin q h1 h3 h4 p⟩
            cases z1 with
            | lst d o zz => cases ei; exact .inl (seq d zz)
            | ref e0 =>
              obtain ⟨o, ho, ob⟩ := q.at_ e0
              simp only [sortItems, ho] at ei
              cases ob with
              | lst g1 g2 => cases ei; exact .inl (seq g1 g2)
              | dK g1 g2 =>
                cases ei
                obtain ⟨bs, h1, h2, h3, h4⟩ := tri_of g2.keysV ed
                exact .inr (.inl ⟨_, _, bs, rfl, .inl g1, h2, fun K b m => (h4 b m).2 K, by rw [h3]; exact hcs, tri_fin q h1 h3 h4 p⟩)
              | @dT kvs kv g1 g2 =>
                cases ei
                refine .inr (.inr ⟨_, kv, rfl, .inl g1, fun ads ha => ?_⟩)
                have zz : VRs G r H (kvs.map fun p => .tup (p.1.map keyV)) (ads.map V.ref) := tkeys_vrs q g2 ha
                obtain ⟨bs, h1, h2, h3, h4⟩ := tri_of zz ed
                exact ⟨bs, h2, fun K b m => (h4 b m).2 K, by rw [h3]; exact hcs, tri_fin q h1 h3 h4 p⟩
              | _ => cases ei
            | _ => cases ei
          · rw [if_neg hcs] at p; exact p.elim
  · exact p.elim
end
end MM
namespace MM
open PySem L2
section
variable {X : Cx} {G : Glob} {W : WX} {r r1 r2 : Ad} {H H1 H2 : Hp} {h h1 : HM} {l : Loc} {K : PySem.W.Frag} {a : Addr} {xs : List Val} {vs : List V} {n k : Nat} {pos : Pos} {e : Expr} {me : EM}
def mergeT (kvs : List (List Key × V)) (more : List (List Key × Addr × V)) : List (List Key × V) := more.foldl (fun acc kv => putK acc kv.1 kv.2.2) kvs
def rDictT (K : PySem.W.Frag) : List V → Hp → VK → Prop := fun xs H Q => ∃ (a : Addr) (ps : List Addr) (kvs : List (List Key × Addr × V)), xs = [.ref a] ∧ SqL K H a (ps.map V.ref) ∧
  Paired (fun p (kv : List Key × Addr × V) => SqT K H p [.ref kv.2.1, kv.2.2] ∧ H kv.2.1 = some (.tup (kv.1.map kV))) ps kvs ∧ ∀ p, H p = none → Q (.ref p) (upd H p (.dT (mergeT [] kvs)))
theorem pairs_ofT {pins : List (Addr × Obj)} {σ : St} {s : Shared} (I : Inv X pins σ H s) : ∀ {ps : List Addr} {kvs : List (List Key × Addr × V)}, Paired (fun p (kv : List Key × Addr × V) => SqT X.K H p [.ref kv.2.1, kv.2.2] ∧ H kv.2.1 = some (.tup (kv.1.map kV))) ps kvs →
    ∃ prs : List (List Key × Addr × Value), Paired (fun (p : List Key × Addr × V) (q : List Key × Addr × Value) => p.1 = q.1 ∧ p.2.1 = q.2.1 ∧ RelV p.2.2 q.2.2) kvs prs ∧ prs.length = ps.length ∧
      (∀ (j : Nat) (q : List Key × Addr × Value), prs[j]? = some q → ∃ b : Addr, ps[j]? = some b ∧ s.heap.IsTuple b #[.ref q.2.1, q.2.2]) ∧ ∀ q ∈ prs, H q.2.1 = some (.tup (q.1.map kV))
  | _, _, .nil => ⟨[], .nil, rfl, fun j q e => by simp at e, fun q m => by cases m⟩
  | p :: _, kv :: _, .cons h t => by
    obtain ⟨prs, r, hl, hp, hk⟩ := pairs_ofT I t
    obtain ⟨its, rv, ht, _⟩ := I.tuple h.1
    obtain ⟨u, y, ei, ru, ry⟩ := vals2 rv
    subst ei
    obtain rfl : u = Value.ref kv.2.1 := ru
    refine ⟨(kv.1, kv.2.1, y) :: prs, .cons ⟨rfl, rfl, ry⟩ r, by rw [List.length_cons, List.length_cons, hl], fun j q e => ?_, fun q m => ?_⟩
    · cases j with
      | zero =>
        have e' : (kv.1, kv.2.1, y) = q := Option.some.inj e
        subst e'
        exact ⟨p, rfl, ht⟩
      | succ j =>
        obtain ⟨b, e1, e2⟩ := hp j q (by simpa using e)
        exact ⟨b, by simpa using e1, e2⟩
    · rcases List.mem_cons.mp m with rfl | m
      · exact h.2
      · exact hk q m
theorem kt_merge : ∀ {kvs : List (List Key × Addr × V)} {prs : List (List Key × Addr × Value)} {acc : List (List Key × V)} {accV : List (List Key × Addr × Value)}, Paired (fun (p : List Key × Addr × V) (q : List Key × Addr × Value) => p.1 = q.1 ∧ p.2.1 = q.2.1 ∧ RelV p.2.2 q.2.2) kvs prs →
    (∀ q ∈ prs, H q.2.1 = some (.tup (q.1.map kV))) → KT H acc accV → KT H (mergeT acc kvs) (storedAllH accV prs)
  | _, _, _, _, .nil, _, ka => ka
  | p :: kvs, q :: prs, acc, accV, .cons a b, hk, ka => by
    have h1 := hk q List.mem_cons_self
    have e1 : p.1 = q.1 := a.1
    have st : KT H (putK acc p.1 p.2.2) (storedH accV q.1 q.2.1 q.2.2) := by
      rw [e1]
      exact ka.put q.1 h1 a.2.2
    exact kt_merge (kvs := kvs) (prs := prs) b (fun x m => hk x (List.mem_cons_of_mem _ m)) st
theorem mergeT_len : ∀ (kvs : List (List Key × Addr × V)) (acc : List (List Key × V)), (mergeT acc kvs).length ≤ acc.length + kvs.length
  | [], acc => Nat.le_refl _
  | p :: kvs, acc => by
    have h1 := mergeT_len kvs (putK acc p.1 p.2.2)
    have h2 := length_putK acc p.1 p.2.2
    show (mergeT (putK acc p.1 p.2.2) kvs).length ≤ _
    simp only [List.length_cons]
    omega
theorem cr_dictT (hc : X.calm = true) (hu : X.A.units + 65 < cLine) : CallR X (.type "dict") (rDictT X.K) := by
  intro pins s σ H xs us Q I rv0 h
  obtain ⟨a, ps, kvs, rfl, hq, hp, q⟩ := h
  obtain ⟨u, rfl, ru⟩ := vals1 rv0
  obtain rfl : u = Value.ref a := ru
  obtain ⟨its, rv, pl, hz⟩ := I.list hq
  have ei := refs_at rv
  subst ei
  rw [List.length_map] at hz
  obtain ⟨prs, rel, hl, hpr, hk⟩ := pairs_ofT I hp
  obtain ⟨o, n, ho, hcl, hdn, hdat⟩ := pl
  have hitems : ∀ j k v, (prs.map fun x => ((Value.ref x.2.1 : Value), x.2.2))[j]? = some (k, v) → (ps.map Value.ref).toArray[j]? = some (.ref (ps.getD j 0)) ∧ PairAt s.heap (ps.getD j 0) k v := by
    intro j k v e
    simp only [List.getElem?_map, Option.map_eq_some_iff] at e
    obtain ⟨q', e1, e2⟩ := e
    obtain ⟨b, e3, e4⟩ := hpr j q' e1
    cases e2
    have : ps.getD j 0 = b := by simp [List.getD, e3]
    rw [this]
    exact ⟨by simp [e3], .inl e4⟩
  refine PySem.call_dict_pairsH (knd := tupleKind (mixKind X.prog X.w)) (ps := prs) (n := (prs.map fun x => ((Value.ref x.2.1 : Value), x.2.2)).length) (PairArg.list a (ps.map Value.ref).toArray (fun j => ps.getD j 0) (prs.map fun x => (.ref x.2.1, x.2.2))) (I.ok.hd hc) (tupleKind_room_in1 (A := X.A.in1) (by show X.A.units + 1 + 1 < _; omega)) ⟨⟨o, n, ho, hcl, hdn, hdat⟩, by simp [hl], hitems⟩ ⟨(List.length_map _).symm, fun i key v e => ?_⟩ (fun h' kk x hx => ?_) (by rw [List.length_map, hl]; exact hz) fun h' tk dd kk => ?_
  · have e : (prs.map fun x => ((Value.ref x.2.1 : Value), x.2.2))[i]? = some (key, v) := e
    simp only [List.getElem?_map, Option.map_eq_some_iff] at e
    obtain ⟨q', e1, e2⟩ := e
    cases e2
    exact ⟨q'.1, q'.2.1, e1, rfl⟩
  · obtain ⟨o', its', n', h1, h2, h3, h4⟩ := key_of (P := X.prog) (w := X.w) I.hok (hk x hx)
    exact ⟨o', its', n', kk _ _ (Nat.ne_of_lt (Heap.lt_size h1)) (by simp) h1, h2, h3, h4⟩
  · have I1 : Inv X pins σ H { s with heap := h', toks := tk } := I.kept fun b o e => kk b o (by simp) e
    have hm : (s.heap.objs.size == sysModules) = false := beq_eq_false_iff_ne.mpr (Nat.ne_of_gt I.big)
    have hlen : (mergeT [] kvs).length ≤ sizeLine := by
      refine Nat.le_trans (mergeT_len kvs []) ?_
      rw [List.length_nil, Nat.zero_add, Paired.length rel, hl]
      exact hz
    have nD := I.hok.fresh (Nat.le_refl s.heap.objs.size)
    obtain ⟨od, es, ep, g1, g2, g3, g4, _, g5⟩ := dd
    refine ⟨.ref s.heap.objs.size, upd H s.heap.objs.size (.dT (mergeT [] kvs)), I.laid (t' := tk) (fun b o e => kk b o (by simp) e) (Nat.le_refl _) (show ObjOk X.prog X.w _ _ _ (.dT (mergeT [] kvs)) from ⟨hlen, hm, _, (kt_merge rel hk .nil).keeps fun c ys ec => ?_, od, es, ep, g1, g2, g3, g4, g5⟩), rfl, q _ nD⟩
    rw [upd_ne (ne_of_none ec nD)]
    exact ec
/-- the pairs, by key -/
def pairsBy {κ : Type} (f : Val → Option κ) : List Val → Option (List (κ × Val))
  | [] => some []
  | x :: xs => match x with
    | .tup [k, y] => (match f k, pairsBy f xs with
      | some kk, some r => some ((kk, y) :: r)
      | _, _ => none)
    | _ => none
def mergeV {κ : Type} [DecidableEq κ] (acc more : List (κ × Val)) : List (κ × Val) := more.foldl (fun acc kv => putV acc kv.1 kv.2) acc
theorem pairsK_ok {ys : List Val} {us : List V} {ps : List (Key × Val)} (z : VRs G r H ys us) (e : pairsBy keyOf ys = some ps) :
    ∃ (ads : List Addr) (kv : List (Key × V)), us = ads.map V.ref ∧ Paired (fun p (kv : Key × V) => SqT K H p [kV kv.1, kv.2]) ads kv ∧ KR G r H ps kv := by
  induction ys generalizing us ps with
  | nil => cases z; cases e; exact ⟨[], [], rfl, .nil, .nil⟩
  | cons y ys ih =>
    cases z with
    | cons z1 z2 =>
      simp only [pairsBy] at e
      split at e
      · rename_i k y'
        split at e
        · rename_i kk rr e1 e2
          cases e
          obtain ⟨ads, kv, rfl, h2, h3⟩ := ih z2 e2
          cases z1 with
          | @tup b vs _ d o zz =>
            cases zz with
            | cons c1 c2 => cases c2 with
              | @cons _ _ v2 _ c2 c3 =>
                cases c3
                have hk := key_V c1 e1
                subst hk
                exact ⟨b :: ads, (kk, v2) :: kv, rfl, .cons (.inl (.inl d)) h2, .cons ⟨rfl, c2⟩ h3⟩
        · cases e
      · cases e
theorem pairsT_ok {ys : List Val} {us : List V} {ps : List (List Key × Val)} (z : VRs G r H ys us) (e : pairsBy tkey ys = some ps) :
    ∃ (ads : List Addr) (kv : List (List Key × Addr × V)), us = ads.map V.ref ∧ Paired (fun p (kv : List Key × Addr × V) => SqT K H p [.ref kv.2.1, kv.2.2] ∧ H kv.2.1 = some (.tup (kv.1.map kV))) ads kv ∧ KR G r H ps (kv.map fun p => (p.1, p.2.2)) := by
  induction ys generalizing us ps with
  | nil => cases z; cases e; exact ⟨[], [], rfl, .nil, .nil⟩
  | cons y ys ih =>
    cases z with
    | cons z1 z2 =>
      simp only [pairsBy] at e
      split at e
      · rename_i k y'
        split at e
        · rename_i kk rr e1 e2
          cases e
          obtain ⟨ads, kv, rfl, h2, h3⟩ := ih z2 e2
          cases z1 with
          | @tup b vs _ d o zz =>
            cases zz with
            | cons c1 c2 => cases c2 with
              | @cons _ _ v2 _ c2 c3 =>
                cases c3
                cases c1 with
                | @tup b2 us2 _ d2 o2 zz2 =>
                  have hk := keys_V zz2 e1
                  subst hk
                  exact ⟨b :: ads, (kk, b2, v2) :: kv, rfl, .cons ⟨.inl (.inl d), d2⟩ h2, .cons ⟨rfl, c2⟩ h3⟩
                | _ => cases e1
        · cases e
      · cases e
theorem merge_KR : ∀ {more : List (Key × Val)} {moreV : List (Key × V)} {acc : List (Key × Val)} {accV : List (Key × V)}, KR G r H more moreV → KR G r H acc accV → KR G r H (mergeV acc more) (mergeK accV moreV)
  | _, _, _, _, .nil, ka => ka
  | p :: more, q :: moreV, acc, accV, .cons a b, ka => by
    have st : KR G r H (putV acc p.1 p.2) (putK accV q.1 q.2) := by rw [← a.1]; exact ka.put p.1 a.2
    exact merge_KR (more := more) (moreV := moreV) b st
theorem merge_KRT : ∀ {more : List (List Key × Val)} {moreV : List (List Key × Addr × V)} {acc : List (List Key × Val)} {accV : List (List Key × V)}, KR G r H more (moreV.map fun p => (p.1, p.2.2)) → KR G r H acc accV → KR G r H (mergeV acc more) (mergeT accV moreV)
  | [], [], _, _, _, ka => ka
  | p :: more, q :: moreV, acc, accV, .cons a b, ka => by
    have st : KR G r H (putV acc p.1 p.2) (putK accV q.1 q.2.2) := by
      have := a.1
      dsimp only at this
      rw [← this]; exact ka.put p.1 a.2
    exact merge_KRT (more := more) (moreV := moreV) b st
def bDictK : BOp := fun xs h => match xs with
  | [.ref n] => (match h[n]? with
    | some (.dK kvs) => .ok (.ref h.length) (h ++ [.dK kvs])
    | some (.lst ys) => (match pairsBy keyOf ys with
      | some ps => .ok (.ref h.length) (h ++ [.dK (mergeV [] ps)])
      | none => .bad)
    | _ => .bad)
  | [.lst ys] => (match pairsBy keyOf ys with
    | some ps => .ok (.ref h.length) (h ++ [.dK (mergeV [] ps)])
    | none => .bad)
  | _ => .bad
def bDictT : BOp := fun xs h => match xs with
  | [v] => (match (seqL v h).bind (pairsBy tkey) with
    | some ps => .ok (.ref h.length) (h ++ [.dT (mergeV [] ps)])
    | none => .bad)
  | _ => .bad
theorem cm_dictK (hc : X.calm = true) : CallM X G (.type "dict") bDictK := .of (CallR.or (call_dictP hc) call_dictD) fun W σ r h H xs vs Q q z p => by
  have gen : ∀ {a : Addr} {us : List V} {ys : List Val}, H a = some (.lst us) → VRs G r H ys us → ∀ ps, pairsBy keyOf ys = some ps → Post G W r H σ (VR G) Q (.ok (.ref h.length) (h ++ [.dK (mergeV [] ps)])) →
      (∃ (a' : Addr) (ps : List Addr) (kvs : List (Key × V)), [V.ref a] = [V.ref a'] ∧ SqL X.K H a' (ps.map V.ref) ∧ Paired (fun p kv => SqT X.K H p [kV kv.1, kv.2]) ps kvs ∧ ∀ p, H p = none → Q (.ref p) (upd H p (.dK (mergeK [] kvs)))) := by
    intro a us ys d zz ps e p
    obtain ⟨ads, kv, rfl, h2, h3⟩ := pairsK_ok (K := X.K) zz e
    exact ⟨a, ads, kv, rfl, .inl (.inl d), h2, fun b n => post_alloc q n (.dK upd_same ((merge_KR h3 .nil).ext (ext_alloc q n))) p⟩
  unfold bDictK at p
  split at p
  · rename_i n
    cases z with
    | cons z1 z2 =>
      cases z2
      cases z1 with
      | ref e0 =>
        split at p
        · rename_i kvs hn
          cases q.ob n _ _ e0 hn with
          | dK g1 g2 => exact .inr ⟨_, _, rfl, .inl g1, fun b n => post_alloc q n (.dK upd_same (g2.ext (ext_alloc q n))) p⟩
        · rename_i ys hn
          split at p
          · rename_i ps e
            cases q.ob n _ _ e0 hn with
            | lst g1 g2 => exact .inl (gen g1 g2 ps e p)
          · exact p.elim
        · exact p.elim
  · rename_i ys
    cases z with
    | cons z1 z2 =>
      cases z2
      cases z1 with
      | lst d o zz =>
        split at p
        · rename_i ps e
          exact .inl (gen d zz ps e p)
        · exact p.elim
  · exact p.elim
theorem cm_dictT (hc : X.calm = true) (hu : X.A.units + 65 < cLine) : CallM X G (.type "dict") bDictT := .of (cr_dictT hc hu) fun W σ r h H xs vs Q q z p => by
  unfold bDictT at p
  split at p
  · rename_i v
    split at p
    · rename_i ps e
      cases z with
      | cons z1 z2 =>
        cases z2
        cases es : seqL v h with
        | none => rw [es] at e; cases e
        | some ys =>
          rw [es] at e
          obtain ⟨a, us, rfl, d, zz⟩ := seqL_ok q z1 es
          obtain ⟨ads, kv, rfl, h2, h3⟩ := pairsT_ok (K := X.K) zz e
          exact ⟨a, ads, kv, rfl, .inl (.inl d), h2, fun b n => post_alloc q n (.dT upd_same ((merge_KRT h3 .nil).ext (ext_alloc q n))) p⟩
    · exact p.elim
  · exact p.elim
mutual
/-- the value that a datum reads as -/
def ofD : PyData → Val
  | .none => .non
  | .bool b => .bl b
  | .int i => .int i
  | .str x => .str x
  | .list xs => .lst (ofDs xs)
  | .tuple xs => .tup (ofDs xs)
  | .dict _ => .non
def ofDs : List PyData → List Val
  | [] => []
  | x :: xs => ofD x :: ofDs xs
end
mutual
/-- no pinned tuple within -/
def noP : Val → Bool
  | .tup xs => noPs xs
  | .lst xs => noPs xs
  | .ptup _ => false
  | _ => true
def noPs : List Val → Bool
  | [] => true
  | x :: xs => noP x && noPs xs
end
mutual
theorem ofD_eq : ∀ {v : Val} {d : PyData}, noP v = true → datF v = some d → v = ofD d
  | .non, _, _, e => by cases e; rfl
  | .bl b, _, _, e => by cases e; rfl
  | .int i, _, _, e => by cases e; rfl
  | .str x, _, _, e => by cases e; rfl
  | .tup xs, _, n, e => by
    simp only [datF, Option.map_eq_some_iff] at e
    obtain ⟨ds, e1, rfl⟩ := e
    show Val.tup xs = .tup (ofDs ds)
    rw [ofDs_eq (by simpa [noP] using n) e1]
  | .lst xs, _, n, e => by
    simp only [datF, Option.map_eq_some_iff] at e
    obtain ⟨ds, e1, rfl⟩ := e
    show Val.lst xs = .lst (ofDs ds)
    rw [ofDs_eq (by simpa [noP] using n) e1]
  | .ptup _, _, n, _ => by cases n
  | .ref _, _, _, e => by cases e
  | .fn _, _, _, e => by cases e
  | .ty _, _, _, e => by cases e
  | .scr _, _, _, e => by cases e
theorem ofDs_eq : ∀ {vs : List Val} {ds : List PyData}, noPs vs = true → datFs vs = some ds → vs = ofDs ds
  | [], _, _, e => by cases e; rfl
  | v :: vs, _, n, e => by
    simp only [noPs, Bool.and_eq_true] at n
    simp only [datFs] at e
    split at e
    · rename_i d ds' e1 e2
      cases e
      show v :: vs = ofD d :: ofDs ds'
      rw [ofD_eq n.1 e1, ofDs_eq n.2 e2]
    · cases e
end
theorem noPs_get {xs : List Val} (n : noPs xs = true) : ∀ {i : Nat} {x : Val}, xs[i]? = some x → noP x = true := by
  induction xs with
  | nil => intro i x e; simp at e
  | cons y ys ih =>
    simp only [noPs, Bool.and_eq_true] at n
    intro i x e
    cases i with
    | zero => simp at e; subst e; exact n.1
    | succ i => exact ih n.2 (by simpa using e)
theorem datFs_get {xs : List Val} {ds : List PyData} (e : datFs xs = some ds) : ∀ {i : Nat} {x : Val}, xs[i]? = some x → ∃ d, ds[i]? = some d ∧ datF x = some d := by
  induction xs generalizing ds with
  | nil => intro i x hx; simp at hx
  | cons y ys ih =>
    intro i x hx
    simp only [datFs] at e
    split at e
    · rename_i d ds' e1 e2
      cases e
      cases i with
      | zero => simp at hx; subst hx; exact ⟨d, rfl, e1⟩
      | succ i => exact ih e2 (by simpa using hx)
    · cases e
end
def rDflt (K : PySem.W.Frag) (m : PyData → List PyData → PyData) : List V → List V → Hp → VK → Prop := fun xs zs H Q => ∃ (a : Addr) (us : List V) (ds : List PyData) (z : V), xs = [.ref a] ∧ zs = [z] ∧ SqL K H a us ∧ DpAll K H us ds ∧ PySem.W.AlikeAll ds ∧ SeqAt.shaped (.list ds) = true ∧
  (ds = [] → Q z H) ∧ ∀ (y : PyData) (ys : List PyData) (i : Nat) (u : V), ds = y :: ys → us[i]? = some u → ds[i]? = some (m y ys) → Q u H
theorem dflt_at {pins : List (Addr × Obj)} {σ : St} {s : Shared} {its : List Value} {us : List V} {ds : List PyData} {i : Nat} {v : Value} {d : PyData} {bs : List Addr} {h' : Heap} (I : Inv X pins σ H s) (rv : Vals us its) (hd : DpAll X.K H us ds) (hs : SeqAt.shaped (.list ds) = true)
    (hv : its.toArray[i]? = some v) (rd : Reads h' v d bs) (hk : ∀ b o, s.heap.get? b = some o → h'.get? b = some o) : ∃ u, us[i]? = some u ∧ RelV u v ∧ ds[i]? = some d := by
  have hv' : its[i]? = some v := by simpa using hv
  have hl := rv.length
  have hlt : i < us.length := by have := (List.getElem?_eq_some_iff.mp hv').1; omega
  obtain ⟨w, hw, rw'⟩ := rv.get (i := i) (x := us[i]) (by simp [hlt])
  rw [hv'] at hw; cases hw
  have key : ∀ {us : List V} {ds : List PyData}, DpAll X.K H us ds → ∀ {i : Nat} {u : V}, us[i]? = some u → ∃ d, ds[i]? = some d ∧ Dp X.K H u d ∧ d ∈ ds := by
    intro us ds h
    induction us generalizing ds with
    | nil => intro i u e; simp at e
    | cons x us ih =>
      intro i u e
      cases h with
      | cons h1 h2 =>
        cases i with
        | zero => simp at e; subst e; exact ⟨_, rfl, h1, List.mem_cons_self⟩
        | succ i => obtain ⟨d, a, b, c⟩ := ih h2 (by simpa using e); exact ⟨d, by simpa using a, b, List.mem_cons_of_mem _ c⟩
  obtain ⟨d2, e2, dp, m2⟩ := key hd (i := i) (u := us[i]) (by simp [hlt])
  obtain ⟨as, r2⟩ := Dp.reads I d2 us[i] v dp rw'
  have r3 := PyProof.Rows.Reads.keeps (h' := h') hk r2
  have hc : PyData.canLayAll0 ds = true := SeqAt.canLay_of_shaped hs
  have hc2 : ∀ {ds : List PyData}, PyData.canLayAll0 ds = true → ∀ d ∈ ds, d.canLay0 = true := by
    intro ds h
    induction ds with
    | nil => intro d m; cases m
    | cons x ds ih =>
      have h' : x.canLay0 = true ∧ PyData.canLayAll0 ds = true := by simpa [PyData.canLayAll0] using h
      intro d m
      rcases List.mem_cons.mp m with rfl | m
      · exact h'.1
      · exact ih h'.2 d m
  have := SeqAt.Reads.unique d2 d v _ _ (hc2 hc d2 m2) r3 rd
  subst this
  exact ⟨us[i], by simp [hlt], rw', e2⟩
theorem readsAll_of {pins : List (Addr × Obj)} {σ : St} {s : Shared} {its : List Value} {us : List V} {ds : List PyData} (I : Inv X pins σ H s) (rv : Vals us its) (hd : DpAll X.K H us ds) : ∃ as, ReadsAll s.heap its ds as := Dp.readsAll I ds us its hd rv
theorem cr_minDf (hc : X.calm = true) (hu : X.A.units + 200 < cLine) : CallRK X (.builtin "min") [Str.ofString "default"] (rDflt X.K PySem.W.minD) := by
  intro pins s σ H xs zs us ws Q I rx rz h
  obtain ⟨a, us', ds, z, rfl, rfl, hs, hd, ha, hsh, h0, h1⟩ := h
  obtain ⟨its, rv, hl, hz⟩ := I.list hs
  obtain ⟨u, rfl, ru⟩ := vals1 rx
  obtain ⟨wv, rfl, rw'⟩ := vals1 rz
  obtain rfl : u = Value.ref a := ru
  obtain ⟨as, rs⟩ := readsAll_of I rv hd
  have hdep : PyData.depthAll ds ≤ 64 := by have := SeqAt.depth_of_shaped hsh; simp only [PyData.depth] at this; omega
  refine PySem.W.min_list_default (vs := its.toArray) (as := as) (I.ok.hd hc) hl.isList (by simpa using rs) ha (by omega) (fun e h' tk hk => ⟨z, H, I.kept hk, rw', h0 e⟩) fun y ys i v h' tk bs e hv rd hk => ?_
  obtain ⟨u, e1, e2, e3⟩ := dflt_at I rv hd hsh hv rd hk
  exact ⟨u, H, I.kept hk, e2, h1 y ys i u e e1 e3⟩
open Classical in
noncomputable def vDfl (m : PyData → List PyData → PyData) (v d : Val) (h : HM) : Res Val := match seqL v h with
  | some xs => (match datFs xs with
    | some [] => .ok d h
    | some (y :: ys) => if PySem.W.AlikeAll (y :: ys) ∧ SeqAt.shaped (.list (y :: ys)) = true ∧ noPs xs = true then .ok (ofD (m y ys)) h else .bad
    | none => .bad)
  | none => .bad
noncomputable def eDfl (m : PyData → List PyData → PyData) (a d : EM) : EM := fun l h => (a l h).bind fun x h1 => (d l h1).bind fun y h2 => vDfl m x y h2
theorem dfl_ok {W : WX} {σ : St} {m : PyData → List PyData → PyData} {v d : Val} {x z : V} {Q : VK} (q : Rel G r h H) (zv : VR G r H v x) (zd : VR G r H d z) (p : Post G W r H σ (VR G) Q (vDfl m v d h)) : rDflt K m [x] [z] H Q := by
  unfold vDfl at p
  split at p
  · rename_i xs es
    obtain ⟨a, us, rfl, dd, zz⟩ := seqL_ok q zv es
    split at p
    · rename_i e
      exact ⟨a, us, [], z, rfl, rfl, .inl (.inl dd), datFs_ok zz e, ⟨fun x m => (by cases m), fun x m => (by cases m)⟩, by decide, fun _ => Post.here q zd p, fun y ys i u e => (by cases e)⟩
    · rename_i y ys e
      split at p
      · rename_i hc
        refine ⟨a, us, y :: ys, z, rfl, rfl, .inl (.inl dd), datFs_ok zz e, hc.1, hc.2.1, fun e => (by cases e), fun y' ys' i u e' hu hd => ?_⟩
        cases e'
        obtain ⟨xi, hx, zx⟩ := zz.get' hu
        obtain ⟨d', hd', ed'⟩ := datFs_get e hx
        rw [hd] at hd'; cases hd'
        rw [← ofD_eq (noPs_get hc.2.2 hx) ed'] at p
        exact Post.here q zx p
      · exact p.elim
    · exact p.elim
  · exact p.elim
section
variable {X : Cx} {G : Glob} {W : WX} {e f : Expr} {me mf : EM} {pos p kp : Pos}
theorem pk_one {t : TE} {nm : Option Str} (h : PE X f t) : PK X [⟨nm, f, kp⟩] (tCons t tNil) := pk_cons h pk_nil
theorem me_minD (hu : X.A.units + 200 < cLine) (hc : X.calm = true) (hg : Gl X "min") (hm : X.mg "min" = none) (he : ME X G W e me) (hf : ME X G W f mf)
    (he' : backTo pos (starEach [e] X.env) = (false, eval e X.env) :: backTo pos (starEach [] X.env) := by rfl) (hpl : (backTo pos (starEach [e] X.env)).any (·.1) = false := by rfl)
    (hall : (backToKw pos (keywordEach [⟨some "default", f, kp⟩] X.env)).all (·.1.isSome) = true := by rfl) (hnone : (backToKw pos (keywordEach [⟨some "default", f, kp⟩] X.env)).any (·.1.isNone) = false := by rfl) (hks : (backToKw pos (keywordEach [⟨some "default", f, kp⟩] X.env)).filterMap (·.1) = [Str.ofString "default"] := by rfl)
    (hse : starEach [e] X.env = (false, eval e X.env) :: starEach [] X.env := by rfl) :
    ME X G W (.Call (.Name "min" p) [e] [⟨some "default", f, kp⟩] pos) (eDfl PySem.W.minD me mf) := by
  refine ⟨fun pins s σ H Q I ⟨r, h, l, q, hl, pp⟩ => (pe_callBK (cr_minDf hc hu) hg hm PyProof.Rows.boot_min (pa_cons he pa_nil hse) (pk_one hf) (by decide) (by decide) he' hpl hall hnone hks).run pins s σ H Q I ?_⟩
  exact ⟨r, h, l, q, hl, (Post.bind pp).imp fun x H1 ⟨r1, h1, w1, e1, q1, z1, p1⟩ => ⟨r1, h1, l, q1, hl.ext e1, (Post.bind p1).imp fun y H2 ⟨r2, h2, w2, e2, q2, z2, p2⟩ => dfl_ok q2 (z1.ext e2) z2 p2⟩⟩
end
end MM
namespace MM
open PySem L2
end MM
namespace MM
open PySem L2
section
variable {X : Cx} {G : Glob} {W : WX} {r : Ad} {H : Hp} {a1 : Expr} {me : EM} {pos p p2 pos2 : Pos}
def eListRangeM (m : EM) : EM := fun l h => (m l h).bind fun v h1 => match v with
  | .int j => if -(2 ^ 61) ≤ j ∧ j ≤ 16777216 then .ok (.ref h1.length) (h1 ++ [.lst (intsV 0 j.toNat)]) else .bad
  | _ => .bad
theorem vrs_ints : ∀ (xs : List Int), VRs G r H (xs.map Val.int) (xs.map V.int)
  | [] => .nil
  | x :: xs => .cons (.int x) (vrs_ints xs)
theorem vrs_rg (j : Int) : VRs G r H (intsV 0 j.toNat) (rgV 0 j) := by
  have e1 : intsV 0 j.toNat = ((List.range j.toNat).map fun (i : Nat) => (0 + (i : Nat) : Int)).map Val.int := by simp [intsV]
  have e2 : rgV 0 j = ((List.range j.toNat).map fun (i : Nat) => (0 + (i : Nat) : Int)).map V.int := by
    unfold rgV
    rw [Int.sub_zero, List.map_map]
    rfl
  rw [e1, e2]
  exact vrs_ints _
theorem me_listRangeM (hg : Gl X "list") (hm : X.mg "list" = none) (hm2 : X.mg "range" = none) (ha : ME X G W a1 me) (hg2 : Gl X "range" := by rfl) (hc : X.calm = true := by rfl)
    (na : starEach [a1] X.env = (false, eval a1 X.env) :: starEach [] X.env := by rfl) (na2 : starEach [(Expr.Call (.Name "range" p2) [a1] [] pos2)] X.env = (false, eval (Expr.Call (.Name "range" p2) [a1] [] pos2) X.env) :: starEach [] X.env := by rfl) :
    ME X G W (.Call (.Name "list" p) [.Call (.Name "range" p2) [a1] [] pos2] [] pos) (eListRangeM me) := by
  refine ⟨fun pins s σ H Q I ⟨r, h, l, q, hl, pp⟩ => (pe_listRg hc hg hm (prg_1 hg2 hm2 ha na) na2).run pins s σ H Q I ⟨r, h, l, q, hl, (Post.bind pp).imp fun x H1 ⟨r1, h1, w1, e1, q1, z1, p1⟩ => ?_⟩⟩
  cases z1 with
  | int j =>
    dsimp only at p1
    split at p1
    · rename_i hj
      refine ⟨j, rfl, ⟨by decide, by decide, by omega, by omega, by omega⟩, fun b n => post_alloc q1 n (.lst upd_same (vrs_rg j)) p1⟩
    · exact p1.elim
  | _ => exact p1.elim
end
end MM
namespace MM
open PySem L2
section
variable {l : Loc} {h h1 : HM} {v : Val} {i n : Nat}
@[simp] theorem ev_C : eC v l h = .ok v h := (rfl)
@[simp] theorem ev_Var0 : eVar 0 (some v :: l) h = .ok v h := (rfl)
@[simp] theorem ev_VarS {x : Option Val} : eVar (i + 1) (x :: l) h = eVar i l h := (rfl)
@[simp] theorem ev_e2 {g : VOp} {a b : EM} : e2 g a b l h = (a l h).bind fun x h1 => (b l h1).bind fun y h2 => g x y h2 := (rfl)
@[simp] theorem ev_tOf {m : EM} : tOf m l h = (m l h).bind toB := (rfl)
@[simp] theorem ev_tTru {m : EM} : tTru m l h = (m l h).bind truV := (rfl)
@[simp] theorem ev_toB {b : Bool} : toB (.bl b) h = .ok b h := (rfl)
@[simp] theorem ev_truB {b : Bool} : truV (.bl b) h = .ok b h := (rfl)
@[simp] theorem ev_truL {xs : List Val} : truV (.lst xs) h = .ok (!xs.isEmpty) h := (rfl)
@[simp] theorem ev_truT {xs : List Val} : truV (.tup xs) h = .ok (!xs.isEmpty) h := (rfl)
@[simp] theorem ev_tAnd {a b : TM} : tAndM a b l h = (a l h).bind fun c h1 => if c = true then b l h1 else .ok false h1 := (rfl)
@[simp] theorem ev_tOr {a b : TM} : tOrM a b l h = (a l h).bind fun c h1 => if c = true then .ok true h1 else b l h1 := (rfl)
@[simp] theorem ev_tNot {a : TM} : tNotM a l h = (a l h).bind fun c h1 => .ok (!c) h1 := (rfl)
@[simp] theorem ev_eAnd {a b : EM} : eAndM a b l h = (a l h).bind fun x h1 => (toB x h1).bind fun c h2 => if c = true then b l h2 else .ok (.bl false) h2 := (rfl)
@[simp] theorem ev_eOr {a b : EM} : eOrM a b l h = (a l h).bind fun x h1 => (toB x h1).bind fun c h2 => if c = true then .ok (.bl true) h2 else b l h2 := (rfl)
@[simp] theorem ev_eNot {a : EM} : eNotM a l h = (a l h).bind fun x h1 => (truV x h1).bind fun c h2 => .ok (.bl (!c)) h2 := (rfl)
@[simp] theorem ev_eIf {t : TM} {a b : EM} : eIfM t a b l h = (t l h).bind fun c h1 => if c = true then a l h1 else b l h1 := (rfl)
@[simp] theorem ev_aNil : aNil l h = .ok [] h := (rfl)
@[simp] theorem ev_aCons {a : EM} {t : AM} : aCons a t l h = (a l h).bind fun x h1 => (t l h1).bind fun xs h2 => .ok (x :: xs) h2 := (rfl)
@[simp] theorem ev_eDisp {mk : List Val → HM → Res Val} {m : AM} : eDisp mk m l h = (m l h).bind mk := (rfl)
@[simp] theorem ev_mkTup {xs : List Val} (hz : xs.length ≤ 1000) : mkTup xs h = .ok (.tup xs) h := if_pos (by rw [sizeLine_eq]; omega)
@[simp] theorem ev_mkLst {xs : List Val} (hz : xs.length ≤ 1000) : mkLst xs h = .ok (.lst xs) h := if_pos (by rw [sizeLine_eq]; omega)
@[simp] theorem ev_mkRef {xs : List Val} (hz : xs.length ≤ 1000) : mkRef xs h = .ok (.ref h.length) (h ++ [.lst xs]) := if_pos (by rw [sizeLine_eq]; omega)
@[simp] theorem ev_eCall {m : FM} {as : AM} : eCall m as l h = (as l h).bind m := (rfl)
@[simp] theorem ev_eBi {g : BOp} {m : AM} : eBi g m l h = (m l h).bind g := (rfl)
@[simp] theorem ev_sNil : sNil l h = .nx l h := (rfl)
@[simp] theorem ev_sSeq {a b : SM} : sSeq a b l h = match a l h with | .nx l1 h1 => b l1 h1 | x => x := (rfl)
@[simp] theorem ev_sDrop {m : EM} : sDrop m l h = (m l h).thn l fun _ h1 => .nx l h1 := (rfl)
@[simp] theorem ev_sRet {m : EM} : sRet m l h = (m l h).thn l fun v h1 => .rt v h1 := (rfl)
@[simp] theorem ev_sIf {t : TM} {a b : SM} : sIf t a b l h = (t l h).thn l fun c h1 => if c = true then a l h1 else b l h1 := (rfl)
@[simp] theorem ev_sAsg {m : EM} {g : GM} : sAsg m g l h = (m l h).thn l fun x h1 => match g x l with | some l1 => .nx l1 h1 | none => .bad := (rfl)
@[simp] theorem ev_gNm0 {x : Option Val} : gNm 0 v (x :: l) = some (some v :: l) := (rfl)
@[simp] theorem ev_gNmS {x : Option Val} : gNm (i + 1) v (x :: l) = (gNm i v l).map (x :: ·) := (rfl)
@[simp] theorem ev_gsNil : gsNil [] l = some l := (rfl)
@[simp] theorem ev_gsCons {g : GM} {t : GsM} {xs : List Val} : gsCons g t (v :: xs) l = (g v l).bind fun l1 => t xs l1 := (rfl)
@[simp] theorem ev_gTp {gs : GsM} {xs : List Val} : gTp n gs (.tup xs) l = if xs.length = n then gs xs l else none := (rfl)
@[simp] theorem ev_sFor {ms : IM} {g : GM} {b : SM} : sFor ms g b l h = (ms l h).thn l fun src h1 => forL src g b src.len 0 l h1 := (rfl)
@[simp] theorem ev_iArgs {f : List Val → HM → Res Src} {m : AM} : iArgs f m l h = (m l h).bind f := (rfl)
@[simp] theorem ev_iVal {m : EM} : iVal m l h = (m l h).bind srcOf := (rfl)
@[simp] theorem ev_eLc {mi : IM} {g : GM} {tt : TM} {te : EM} {vs : List Nat} {mk : List Val → HM → Res Val} : eLc mi g tt te vs mk l h = (mi l h).bind fun src h1 => (lcL src g tt te (wipeL l vs) src.len 0 h1 []).bind mk := (rfl)
@[simp] theorem ev_frozen {xs : List Val} : frozen xs h = .ok (.lst xs) h := (rfl)
@[simp] theorem ev_tYes : tYesM l h = .ok true h := (rfl)
@[simp] theorem ev_eBm {T : Kd} {g : MOp} {mo : EM} {ma : AM} : eBm T g mo ma l h = (mo l h).bind fun o h1 => if isKd T o h1 = true then (ma l h1).bind fun xs h2 => g o xs h2 else .bad := (rfl)
@[simp] theorem ev_kdS {x : Str} : isKd .str (.str x) h = true := (rfl)
@[simp] theorem ev_eSl {m : EM} {lo hi : OM} : eSl m lo hi l h = (m l h).bind fun x h1 => (lo l h1).bind fun a h2 => (hi l h2).bind fun b h3 => vSl x a b h3 := (rfl)
@[simp] theorem ev_oNone : oNone l h = .ok none h := (rfl)
@[simp] theorem ev_oSome {m : EM} : oSome m l h = (m l h).bind fun v h1 => match v with | .int i => .ok (some i) h1 | _ => .bad := (rfl)
@[simp] theorem ev_eCh {g g' : VOp} {a b c : EM} : eChM g g' a b c l h = (a l h).bind fun x h1 => (b l h1).bind fun y h2 => (g x y h2).bind fun z h3 => (toB z h3).bind fun k h4 => if k = true then (c l h4).bind fun w h5 => g' y w h5 else .ok (.bl false) h4 := (rfl)
@[simp] theorem ev_addI {a b : Int} : vAdd (.int a) (.int b) h = .ok (.int (a + b)) h := (rfl)
@[simp] theorem ev_subI {a b : Int} : vSub (.int a) (.int b) h = .ok (.int (a - b)) h := (rfl)
@[simp] theorem ev_ltI {a b : Int} : vLt (.int a) (.int b) h = .ok (.bl (decide (a < b))) h := (rfl)
@[simp] theorem ev_leI {a b : Int} : vLe (.int a) (.int b) h = .ok (.bl (decide (a ≤ b))) h := (rfl)
@[simp] theorem ev_gtI {a b : Int} : vGt (.int a) (.int b) h = .ok (.bl (decide (b < a))) h := (rfl)
@[simp] theorem ev_geI {a b : Int} : vGe (.int a) (.int b) h = .ok (.bl (decide (b ≤ a))) h := (rfl)
theorem ev_modI {a b : Int} (hb : 0 < b) : vMod (.int a) (.int b) h = .ok (.int (a % b)) h := if_pos hb
theorem ev_mulI {a b : Int} (hb : (-(2 ^ 64) < a ∧ a < 2 ^ 64) ∨ (-(2 ^ 64) < b ∧ b < 2 ^ 64)) : vMul (.int a) (.int b) h = .ok (.int (a * b)) h := if_pos hb
@[simp] theorem ev_eqI {a b : Int} : vEq (.int a) (.int b) h = .ok (.bl (decide (a = b))) h := by
  have e : PyData.eqv (.int a) (.int b) = decide (a = b) := by
    show (a == b) = _
    by_cases e : a = b <;> simp [e]
  show (if (SeqAt.shaped (.int a) && SeqAt.shaped (.int b)) = true then (Res.ok (Val.bl (PyData.eqv (.int a) (.int b))) h : Res Val) else .bad) = _
  rw [e]
  rfl
@[simp] theorem ev_isNonB {b : Bool} : vIsNot (.bl b) .non h = .ok (.bl true) h := (rfl)
@[simp] theorem ev_isBB {a b : Bool} : vIs (.bl a) (.bl b) h = .ok (.bl (decide (a = b))) h := (rfl)
@[simp] theorem ev_isNotBB {a b : Bool} : vIsNot (.bl a) (.bl b) h = .ok (.bl (!decide (a = b))) h := (rfl)
@[simp] theorem ev_rng1 {j : Int} (hj : -(2 ^ 62) ≤ j ∧ j < 2 ^ 62) : rng1 [.int j] h = .ok (srcItems (intsV 0 j.toNat)) h := if_pos hj
theorem ev_lenS {x : Str} (hz : x.length ≤ sizeLine) : bLen [.str x] h = .ok (.int x.length) h := by simp [bLen, lenN, hz]
@[simp] theorem ev_lenL {xs : List Val} : bLen [.lst xs] h = .ok (.int xs.length) h := (rfl)
@[simp] theorem ev_lenT {xs : List Val} : bLen [.tup xs] h = .ok (.int xs.length) h := (rfl)
@[simp] theorem ev_lenScr {xs : List Int} : bLen [.scr xs] h = .ok (.int xs.length) h := (rfl)
end
/-- a comprehension over what stands: each turn tells whether, and what -/
theorem lc_pure {xs : List Val} {g : GM} {tt : TM} {te : EM} {l : Loc} {h : HM} (f : Val → Option Val) (hf : ∀ x ∈ xs, ∃ l1, g x l = some l1 ∧ ((f x = none ∧ tt l1 h = .ok false h) ∨ ∃ y, f x = some y ∧ tt l1 h = .ok true h ∧ te l1 h = .ok y h)) (hl : xs.length ≤ sizeLine) :
    lcL (srcItems xs) g tt te l (srcItems xs).len 0 h [] = .ok (xs.filterMap f) h := by
  have gen : ∀ (n i : Nat) (acc : List Val), i + n = xs.length → acc.length ≤ i → lcL (srcItems xs) g tt te l n i h acc = .ok (acc ++ (xs.drop i).filterMap f) h := by
    intro n
    induction n with
    | zero =>
      intro i acc hi ha
      have : xs.drop i = [] := List.drop_eq_nil_of_le (by omega)
      simp [lcL, this, srcItems]
    | succ n ih =>
      intro i acc hi ha
      have hlt : i < xs.length := by omega
      have hg : (srcItems xs).get i h = some xs[i] := by simp [srcItems, hlt]
      have hd : xs.drop i = xs[i] :: xs.drop (i + 1) := List.drop_eq_getElem_cons hlt
      obtain ⟨l1, e1, hh⟩ := hf xs[i] (List.getElem_mem hlt)
      simp only [lcL, hg, e1]
      rcases hh with ⟨e2, e3⟩ | ⟨y, e2, e3, e4⟩
      · rw [e3]
        simp only
        rw [ih (i + 1) acc (by omega) (by omega), hd, List.filterMap_cons, e2]
      · rw [e3]
        simp only
        rw [e4]
        simp only
        rw [if_pos (by omega), ih (i + 1) (acc ++ [y]) (by omega) (by simp; omega), hd, List.filterMap_cons, e2]
        simp
  have := gen xs.length 0 [] (by omega) (Nat.le_refl _)
  rw [List.nil_append, List.drop_zero] at this
  exact this
theorem lc_map {xs : List Val} {g : GM} {te : EM} {l : Loc} {h : HM} (f : Val → Val) (hf : ∀ x ∈ xs, ∃ l1, g x l = some l1 ∧ te l1 h = .ok (f x) h) (hl : xs.length ≤ sizeLine) :
    lcL (srcItems xs) g tYesM te l (srcItems xs).len 0 h [] = .ok (xs.map f) h := by
  rw [lc_pure (fun x => some (f x)) (fun x hx => ?_) hl]
  · simp
  · obtain ⟨l1, a, b⟩ := hf x hx
    exact ⟨l1, a, .inr ⟨_, rfl, rfl, b⟩⟩
/-- the same over coded things -/
theorem lc_pureM {α : Type} {xs : List α} {e : α → Val} {g : GM} {tt : TM} {te : EM} {l : Loc} {h : HM} (f : α → Option Val) (hf : ∀ x ∈ xs, ∃ l1, g (e x) l = some l1 ∧ ((f x = none ∧ tt l1 h = .ok false h) ∨ ∃ y, f x = some y ∧ tt l1 h = .ok true h ∧ te l1 h = .ok y h)) (hl : xs.length ≤ sizeLine) :
    lcL (srcItems (xs.map e)) g tt te l (srcItems (xs.map e)).len 0 h [] = .ok (xs.filterMap f) h := by
  have gen : ∀ (n i : Nat) (acc : List Val), i + n = xs.length → acc.length ≤ i → lcL (srcItems (xs.map e)) g tt te l n i h acc = .ok (acc ++ (xs.drop i).filterMap f) h := by
    intro n
    induction n with
    | zero =>
      intro i acc hi ha
      have : xs.drop i = [] := List.drop_eq_nil_of_le (by omega)
      simp [lcL, this, srcItems]
    | succ n ih =>
      intro i acc hi ha
      have hlt : i < xs.length := by omega
      have hg : (srcItems (xs.map e)).get i h = some (e xs[i]) := by simp [srcItems, hlt]
      have hd : xs.drop i = xs[i] :: xs.drop (i + 1) := List.drop_eq_getElem_cons hlt
      obtain ⟨l1, e1, hh⟩ := hf xs[i] (List.getElem_mem hlt)
      simp only [lcL, hg, e1]
      rcases hh with ⟨e2, e3⟩ | ⟨y, e2, e3, e4⟩
      · rw [e3]
        simp only
        rw [ih (i + 1) acc (by omega) (by omega), hd, List.filterMap_cons, e2]
      · rw [e3]
        simp only
        rw [e4]
        simp only
        rw [if_pos (by omega), ih (i + 1) (acc ++ [y]) (by omega) (by simp; omega), hd, List.filterMap_cons, e2]
        simp
  have := gen xs.length 0 [] (by omega) (Nat.le_refl _)
  rw [List.nil_append, List.drop_zero] at this
  have e2 : (srcItems (xs.map e)).len = xs.length := by simp [srcItems]
  rw [e2]
  exact this
theorem lc_mapM {α : Type} {xs : List α} {e : α → Val} {g : GM} {te : EM} {l : Loc} {h : HM} (f : α → Val) (hf : ∀ x ∈ xs, ∃ l1, g (e x) l = some l1 ∧ te l1 h = .ok (f x) h) (hl : xs.length ≤ sizeLine) :
    lcL (srcItems (xs.map e)) g tYesM te l (srcItems (xs.map e)).len 0 h [] = .ok (xs.map f) h := by
  rw [lc_pureM (fun x => some (f x)) (fun x hx => ?_) hl]
  · simp
  · obtain ⟨l1, a, b⟩ := hf x hx
    exact ⟨l1, a, .inr ⟨_, rfl, rfl, b⟩⟩
/-- [e x for x in xs if p x] -/
theorem lc_filterM {α : Type} {xs : List α} {e : α → Val} {g : GM} {tt : TM} {te : EM} {l : Loc} {h : HM} (p : α → Bool) (f : α → Val) (hf : ∀ x ∈ xs, ∃ l1, g (e x) l = some l1 ∧ tt l1 h = .ok (p x) h ∧ (p x = true → te l1 h = .ok (f x) h)) (hl : xs.length ≤ sizeLine) :
    lcL (srcItems (xs.map e)) g tt te l (srcItems (xs.map e)).len 0 h [] = .ok ((xs.filter p).map f) h := by
  rw [lc_pureM (fun x => if p x = true then some (f x) else none) (fun x hx => ?_) hl]
  · congr 1
    clear hf hl
    induction xs with
    | nil => rfl
    | cons x xs ih => by_cases hp : p x = true <;> simp [hp, ih]
  · obtain ⟨l1, a, b, c⟩ := hf x hx
    refine ⟨l1, a, ?_⟩
    by_cases hp : p x = true
    · exact .inr ⟨f x, by simp [hp], by rw [b, hp], c hp⟩
    · exact .inl ⟨by simp [hp], by rw [b]; simp [hp]⟩
/-- the same over places -/
theorem lc_range {lo : Int} {n : Nat} {g : GM} {te : EM} {l : Loc} {h : HM} (f : Nat → Val) (hf : ∀ i, i < n → ∃ l1, g (.int (lo + (i : Nat))) l = some l1 ∧ te l1 h = .ok (f i) h) (hl : n ≤ sizeLine) :
    lcL (srcItems (intsV lo n)) g tYesM te l (srcItems (intsV lo n)).len 0 h [] = .ok ((List.range n).map f) h := by
  have gen : ∀ (k i : Nat) (acc : List Val), i + k = n → acc.length = i → lcL (srcItems (intsV lo n)) g tYesM te l k i h acc = .ok (acc ++ ((List.range n).drop i).map f) h := by
    intro k
    induction k with
    | zero =>
      intro i acc hi ha
      have : (List.range n).drop i = [] := List.drop_eq_nil_of_le (by simp; omega)
      simp [lcL, this, srcItems]
    | succ k ih =>
      intro i acc hi ha
      have hlt : i < n := by omega
      have hg : (srcItems (intsV lo n)).get i h = some (.int (lo + (i : Nat))) := by simp [srcItems, intsV, hlt]
      have hd : (List.range n).drop i = i :: (List.range n).drop (i + 1) := by
        rw [List.drop_eq_getElem_cons (by simpa using hlt)]; simp
      obtain ⟨l1, e1, e2⟩ := hf i hlt
      simp only [lcL, hg, e1, tYesM, e2]
      rw [if_pos (by omega), ih (i + 1) _ (by omega) (by simp [ha]), hd]
      simp
  have := gen n 0 [] (by omega) rfl
  have e : (srcItems (intsV lo n)).len = n := by simp [srcItems, intsV]
  rw [e]
  simpa using this
/-- a loop with an invariant, that goes through -/
theorem for_inv {xs : List Val} {g : GM} {b : SM} {l : Loc} {h : HM} (I : Nat → Loc → HM → Prop) (h0 : I 0 l h)
    (hs : ∀ i x l h, xs[i]? = some x → I i l h → ∃ l1 l2 h2, g x l = some l1 ∧ b l1 h = .nx l2 h2 ∧ I (i + 1) l2 h2) :
    ∃ l' h', forL (srcItems xs) g b (srcItems xs).len 0 l h = .nx l' h' ∧ I xs.length l' h' := by
  have gen : ∀ (n i : Nat) (l : Loc) (h : HM), i + n = xs.length → I i l h → ∃ l' h', forL (srcItems xs) g b n i l h = .nx l' h' ∧ I xs.length l' h' := by
    intro n
    induction n with
    | zero =>
      intro i l h hi hI
      have : i = xs.length := by omega
      subst this
      exact ⟨l, h, by simp [forL, srcItems], hI⟩
    | succ n ih =>
      intro i l h hi hI
      have hlt : i < xs.length := by omega
      have hg : (srcItems xs).get i h = some xs[i] := by simp [srcItems, hlt]
      obtain ⟨l1, l2, h2, e1, e2, hI2⟩ := hs i xs[i] l h (by simp [hlt]) hI
      simp only [forL, hg, e1, e2]
      exact ih (i + 1) l2 h2 (by omega) hI2
  exact gen xs.length 0 l h (by omega) h0
end MM
namespace MM
open PySem L2
def m_law_cell : FM := mF 2 (sSeq (sIf (tOf (e2 vLt (eVar 1) (eBi bLen (aCons (eVar 0) (aNil))))) (sRet (e2 vIx (eVar 0) (eVar 1))) (sNil))
  (sRet (eC (.int 0))))
def m_law_mix : FM := mF 3 (sRet (e2 vMod (e2 vMod (e2 vMul (eVar 0) (eC (.int 48271))) (eVar 1)) (eVar 2)))
def m_law_name : FM := mF 4 (sSeq (sAsg (eC (.str "abcdefghijklmnopqrstuvwxyz")) (gNm 1))
  (sSeq (sAsg (e2 vAdd (eC (.int 1)) (eCall m_law_mix (aCons (eVar 0) (aCons (eC (.int 9973)) (aCons (eC (.int 6)) (aNil)))))) (gNm 2))
  (sSeq (sIf (tOf (e2 vEq (e2 vMod (eVar 0) (eC (.int 3))) (eC (.int 0)))) (sSeq (sAsg (eC (.str "ab")) (gNm 1))
  (sAsg (e2 vAdd (eC (.int 1)) (e2 vMod (eVar 2) (eC (.int 2)))) (gNm 2))) (sNil))
  (sRet (eBm .str mJoin (eC (.str "")) (aCons (eLc (iArgs rng1 (aCons (eVar 2) (aNil))) (gNm 3) (tYesM) (e2 vIx (eVar 1) (eCall m_law_mix (aCons (e2 vAdd (eVar 0) (e2 vMul (eC (.int 7)) (eVar 3))) (aCons (eC (.int 9967)) (aCons (eBi bLen (aCons (eVar 1) (aNil))) (aNil)))))) [3] frozen) (aNil)))))))
def m_law_text : FM := mF 4 (sSeq (sAsg (eC (.str " !\"#$&'()*+,-./0123456789:;<=>?\x40ABCDEFGHIJKLMNOPQRSTUVWXYZ[\\]^_`abcdefghijklmnopqrstuvwxyz{|}~")) (gNm 1))
  (sSeq (sAsg (eCall m_law_mix (aCons (eVar 0) (aCons (eC (.int 9949)) (aCons (eC (.int 5)) (aNil))))) (gNm 2))
  (sSeq (sIf (tOf (e2 vEq (eCall m_law_mix (aCons (eVar 0) (aCons (eC (.int 9941)) (aCons (eC (.int 9)) (aNil))))) (eC (.int 0)))) (sAsg (eC (.int 60)) (gNm 2)) (sNil))
  (sSeq (sIf (tOf (e2 vEq (eCall m_law_mix (aCons (eVar 0) (aCons (eC (.int 9941)) (aCons (eC (.int 9)) (aNil))))) (eC (.int 1)))) (sAsg (eCall m_law_mix (aCons (eVar 0) (aCons (eC (.int 9931)) (aCons (eC (.int 61)) (aNil))))) (gNm 2)) (sNil))
  (sSeq (sIf (tOf (e2 vEq (e2 vMod (eVar 0) (eC (.int 4))) (eC (.int 0)))) (sRet (e2 vIx (eDisp mkTup (aCons (eC (.str "")) (aCons (eC (.str "a")) (aCons (eC (.str "hi;")) (aNil))))) (eCall m_law_mix (aCons (eVar 0) (aCons (eC (.int 9929)) (aCons (eC (.int 3)) (aNil))))))) (sNil))
  (sRet (eBm .str mJoin (eC (.str "")) (aCons (eLc (iArgs rng1 (aCons (eVar 2) (aNil))) (gNm 3) (tYesM) (e2 vIx (eVar 1) (eCall m_law_mix (aCons (e2 vAdd (eVar 0) (e2 vMul (eC (.int 7)) (eVar 3))) (aCons (eC (.int 9923)) (aCons (eBi bLen (aCons (eVar 1) (aNil))) (aNil)))))) [3] frozen) (aNil)))))))))
def m_is_text : FM := mF 1 (sRet (eAndM (eBi bIsi (aCons (eVar 0) (aCons (eC (.ty "str")) (aNil)))) (e2 vLe (eBi bLen (aCons (eVar 0) (aNil))) (eC (.int 60)))))
def m_is_name : FM := mF 2 (sRet (eAndM (eBi bIsi (aCons (eVar 0) (aCons (eC (.ty "str")) (aNil)))) (eAndM (eChM vLe vLe (eC (.int 1)) (eBi bLen (aCons (eVar 0) (aNil))) (eC (.int 6))) (eBi bAll (aCons (eLc (iVal (eVar 0)) (gNm 1) (tYesM) (e2 vIn (eVar 1) (eC (.str "abcdefghijklmnopqrstuvwxyz"))) [1] frozen) (aNil))))))
def cell (ns : List Int) (k : Int) : Int := if k < ns.length then (atI ns k).getD 0 else 0
def mix (c p m : Int) : Int := c * 48271 % p % m
theorem mix_nn {c p m : Int} (hm : 0 < m) : 0 ≤ mix c p m := Int.emod_nonneg _ (by omega)
theorem mix_lt {c p m : Int} (hm : 0 < m) : mix c p m < m := Int.emod_lt_of_pos _ hm
@[simp] theorem at_cell {ns : List Int} {k : Nat} {h : HM} : m_law_cell [.scr ns, .int (k : Nat)] h = .ok (.int (cell ns k)) h := by
  simp only [m_law_cell, mF]
  simp
  by_cases hk : k < ns.length
  · have : (k : Int) < ns.length := by omega
    have e : atI ns (k : Int) = some ns[k] := by
      simp [L2.atI, L2.ixN, hk]
    simp [hk, cell, vIx, e, ofO]
  · simp [hk, cell]
theorem mix_mul {c : Int} {h : HM} : vMul (.int c) (.int 48271) h = .ok (.int (c * 48271)) h := ev_mulI (.inr (by decide))
theorem at_mix {c p m : Int} {h : HM} (hp : 0 < p) (hm : 0 < m) : m_law_mix [.int c, .int p, .int m] h = .ok (.int (mix c p m)) h := by
  simp [m_law_mix, mF, mix_mul, ev_modI hp, ev_modI hm, mix]
def sg (l : List Nat) : Str := ⟨l.toArray⟩
@[simp] theorem sg_len (l : List Nat) : (sg l).length = l.length := by simp [sg, Str.length]
@[simp] theorem sg_list (l : List Nat) : (sg l).cps.toList = l := by simp [sg]
theorem sg_of (x : Str) : x = sg x.cps.toList := by cases x; simp [sg]
@[simp] theorem sg_app (a b : List Nat) : sg a ++ sg b = sg (a ++ b) := by
  show Str.append _ _ = _
  simp [Str.append, sg]
theorem sg_inj {a b : List Nat} (h : sg a = sg b) : a = b := by
  have := congrArg (fun x : Str => x.cps.toList) h
  simpa using this
@[simp] theorem sg_eq {a b : List Nat} : sg a = sg b ↔ a = b := ⟨sg_inj, fun h => h ▸ rfl⟩
theorem sg_one (c : Nat) : (⟨#[c]⟩ : Str) = sg [c] := rfl
def pick (L : List Nat) (i : Int) : Nat := (L[i.toNat]?).getD 0
theorem pick_mem {L : List Nat} {i : Int} (h0 : 0 ≤ i) (h1 : i < L.length) : pick L i ∈ L := by
  have : i.toNat < L.length := by omega
  simp [pick, this]
theorem ix_str {L : List Nat} {i : Int} {h : HM} (hz : L.length ≤ 16777216) (h0 : 0 ≤ i) (h1 : i < L.length) : vIx (.str (sg L)) (.int i) h = .ok (.str (sg [pick L i])) h := by
  have hl : i.toNat < L.length := by omega
  have e : atI L i = some L[i.toNat] := by simp [L2.atI, L2.ixN, h0, h1, hl]
  have hz' : (sg L).length ≤ sizeLine := by rw [sg_len, sizeLine_eq]; exact hz
  simp only [vIx, if_pos hz', sg_list, e, pick]
  simp [ofO, hl, sg_one]
theorem strsOf_map (xs : List Str) : strsOf (xs.map Val.str) = some xs := by
  induction xs with
  | nil => rfl
  | cons x xs ih => simp [strsOf, ih]
theorem join_signs (cs : List Nat) : Txt.join (sg []) (cs.map fun c => sg [c]) = sg cs := by
  show Builtin.Str.glued _ _ = _
  rw [StrLaws.glued_eq_join]
  induction cs with
  | nil => rfl
  | cons c cs ih =>
    cases cs with
    | nil => rfl
    | cons d cs =>
      show sg [c] ++ sg [] ++ Str.join (sg []) ((d :: cs).map fun c => sg [c]) = _
      rw [ih]
      simp
/-- the join of a comprehension's signs -/
theorem join_ok {cs : List Nat} {h : HM} (hz : cs.length ≤ 16777216) : mJoin (.str (sg [])) [.lst (cs.map fun c => .str (sg [c]))] h = .ok (.str (sg cs)) h := by
  have e : (cs.map fun c => Val.str (sg [c])) = (cs.map fun c => sg [c]).map Val.str := by simp
  have hs : ((cs.map fun c => sg [c]).map (·.length)).sum = cs.length := by
    clear hz e
    induction cs with
    | nil => rfl
    | cons c cs ih => simp only [List.map_cons, List.sum_cons, ih]; simp; omega
  simp only [mJoin, seqL, Option.bind_some, e, strsOf_map]
  rw [if_pos (by rw [hs]; simp; exact hz), join_signs]
def lets : List Nat := [97, 98, 99, 100, 101, 102, 103, 104, 105, 106, 107, 108, 109, 110, 111, 112, 113, 114, 115, 116, 117, 118, 119, 120, 121, 122]
theorem lets_eq : Str.ofString "abcdefghijklmnopqrstuvwxyz" = sg lets := by decide +kernel
theorem ab_eq : Str.ofString "ab" = sg [97, 98] := by decide +kernel
theorem none_eq : Str.ofString "" = sg [] := by decide +kernel
/-- drawn signs of L -/
def drawn (L : List Nat) (c p : Int) (n : Nat) : List Nat := (List.range n).map fun (k : Nat) => pick L (mix (c + 7 * (k : Nat)) p L.length)
@[simp] theorem drawn_len {L : List Nat} {c p : Int} {n : Nat} : (drawn L c p n).length = n := by simp [drawn]
theorem drawn_mem {L : List Nat} {c p : Int} {n x : Nat} (hL : 0 < L.length) (h : x ∈ drawn L c p n) : x ∈ L := by
  simp only [drawn, List.mem_map] at h
  obtain ⟨k, _, rfl⟩ := h
  exact pick_mem (mix_nn (by omega)) (mix_lt (by omega))
def nameL (c : Int) : List Nat := if c % 3 = 0 then [97, 98] else lets
def nameN (c : Int) : Int := if c % 3 = 0 then 1 + (1 + mix c 9973 6) % 2 else 1 + mix c 9973 6
def lname (c : Int) : List Nat := drawn (nameL c) c 9967 (nameN c).toNat
/-- the drawn join of a name or a text -/
theorem at_drawn {L : List Nat} {c p j : Int} {l : Loc} {h : HM} {te : EM} {g : GM} (hL : 0 < L.length) (hL2 : L.length ≤ 16777216) (hj : 0 ≤ j) (hj2 : j ≤ 1000) (hp : 0 < p)
    (hg : ∀ k : Nat, ∃ l1, g (.int (k : Nat)) l = some l1 ∧ te l1 h = (m_law_mix [.int (c + 7 * (k : Nat)), .int p, .int L.length] h).bind fun y h2 => vIx (.str (sg L)) y h2) :
    lcL (srcItems (intsV 0 j.toNat)) g tYesM te l (srcItems (intsV 0 j.toNat)).len 0 h [] = .ok ((drawn L c p j.toNat).map fun c => .str (sg [c])) h := by
  rw [lc_range (fun k => .str (sg [pick L (mix (c + 7 * (k : Nat)) p L.length)])) (fun i hi => ?_) (by rw [sizeLine_eq]; omega)]
  · simp [drawn]
  · obtain ⟨l1, e1, e2⟩ := hg i
    refine ⟨l1, by rw [Int.zero_add]; exact e1, ?_⟩
    rw [e2, at_mix hp (by omega)]
    simp only [Res.bind_ok]
    exact ix_str hL2 (mix_nn (by omega)) (mix_lt (by omega))
theorem nameN_pos (c : Int) : 1 ≤ nameN c ∧ nameN c ≤ 6 := by
  unfold nameN
  have h1 := mix_nn (c := c) (p := 9973) (m := 6) (by decide)
  have h2 := mix_lt (c := c) (p := 9973) (m := 6) (by decide)
  split <;> omega
/-- the drawn join of a name or a text, wholly: j, the text's slots as they stand there -/
theorem at_drawnJ {L : List Nat} {c p j : Int} {x : Option Val} {h : HM} (hL : 0 < L.length) (hL2 : L.length ≤ 16777216) (hj : 0 ≤ j) (hj2 : j ≤ 1000) (hp : 0 < p) :
    (eBm .str mJoin (eC (.str (sg []))) (aCons (eLc (iArgs rng1 (aCons (eVar 2) (aNil))) (gNm 3) (tYesM) (e2 vIx (eVar 1) (eCall m_law_mix (aCons (e2 vAdd (eVar 0) (e2 vMul (eC (.int 7)) (eVar 3))) (aCons (eC (.int p)) (aCons (eBi bLen (aCons (eVar 1) (aNil))) (aNil)))))) [3] frozen) (aNil)))
      [some (.int c), some (.str (sg L)), some (.int j), x] h = .ok (.str (sg (drawn L c p j.toNat))) h := by
  have h7 : ∀ (k : Int) (h : HM), vMul (.int 7) (.int k) h = .ok (.int (7 * k)) h := fun k h => ev_mulI (.inl (by decide))
  have hl : ∀ h : HM, bLen [.str (sg L)] h = .ok (.int L.length) h := fun h => by rw [ev_lenS (by rw [sizeLine_eq, sg_len]; exact hL2), sg_len]
  simp only [ev_eBm, ev_C, Res.bind_ok, ev_kdS, if_true, ev_aCons, ev_eLc, ev_iArgs, ev_VarS, ev_Var0, ev_aNil]
  rw [ev_rng1 (by omega)]
  simp only [Res.bind_ok]
  rw [at_drawn (L := L) (c := c) (p := p) hL hL2 hj hj2 hp (fun k => ⟨_, rfl, by simp [h7, hl, wipeL]⟩)]
  simp only [Res.bind_ok, ev_frozen]
  exact join_ok (by simp; omega)
theorem at_name {c : Int} {h : HM} : m_law_name [.int c] h = .ok (.str (sg (lname c))) h := by
  have hn := nameN_pos c
  unfold m_law_name mF
  rw [lets_eq, ab_eq, none_eq]
  by_cases hc : c % 3 = 0
  · have e : nameN c = 1 + (1 + mix c 9973 6) % 2 := if_pos hc
    have e2 : nameL c = [97, 98] := if_pos hc
    simp [at_mix, ev_modI, hc, -ev_eBm]
    rw [at_drawnJ (by decide) (by decide) (by omega) (by omega) (by decide)]
    simp [lname, e, e2]
  · have e : nameN c = 1 + mix c 9973 6 := if_neg hc
    have e2 : nameL c = lets := if_neg hc
    simp [at_mix, ev_modI, hc, -ev_eBm]
    rw [at_drawnJ (by decide) (by decide) (by omega) (by omega) (by decide)]
    simp [lname, e, e2]
theorem lname_len (c : Int) : 1 ≤ (lname c).length ∧ (lname c).length ≤ 6 := by
  have := nameN_pos c
  simp [lname]; omega
theorem lname_mem {c : Int} {x : Nat} (h : x ∈ lname c) : x ∈ lets := by
  have := drawn_mem (by unfold nameL; split <;> decide) h
  unfold nameL at this
  split at this
  · simp [lets] at this ⊢; omega
  · exact this
def signsT : List Nat := ((List.range 95).map (· + 32)).filter (· != 37)
theorem signsT_eq : Str.ofString " !\"#$&'()*+,-./0123456789:;<=>?\x40ABCDEFGHIJKLMNOPQRSTUVWXYZ[\\]^_`abcdefghijklmnopqrstuvwxyz{|}~" = sg signsT := by decide +kernel
def textN (c : Int) : Int := if mix c 9941 9 = 1 then mix c 9931 61 else if mix c 9941 9 = 0 then 60 else mix c 9949 5
def ltext (c : Int) : List Nat := if c % 4 = 0 then (match mix c 9929 3 with | 0 => [] | 1 => [97] | _ => [104, 105, 59]) else drawn signsT c 9923 (textN c).toNat
theorem textN_ok (c : Int) : 0 ≤ textN c ∧ textN c ≤ 60 := by
  unfold textN
  have h1 := mix_nn (c := c) (p := 9931) (m := 61) (by decide)
  have h2 := mix_lt (c := c) (p := 9931) (m := 61) (by decide)
  have h3 := mix_nn (c := c) (p := 9949) (m := 5) (by decide)
  have h4 := mix_lt (c := c) (p := 9949) (m := 5) (by decide)
  split
  · omega
  · split <;> omega
theorem atI_nat {α : Type} {xs : List α} {i : Int} (h0 : 0 ≤ i) : atI xs i = xs[i.toNat]? := by
  unfold L2.atI L2.ixN
  by_cases h : i < xs.length
  · simp [h0, h]
  · have : xs.length ≤ i.toNat := by omega
    simp [h0, h, this]
theorem at_text {c : Int} {h : HM} : m_law_text [.int c] h = .ok (.str (sg (ltext c))) h := by
  have hn := textN_ok c
  have m3 := mix_nn (c := c) (p := 9929) (m := 3) (by decide)
  have m4 := mix_lt (c := c) (p := 9929) (m := 3) (by decide)
  unfold m_law_text mF
  rw [signsT_eq, none_eq]
  have e : textN c = if mix c 9941 9 = 1 then mix c 9931 61 else if mix c 9941 9 = 0 then 60 else mix c 9949 5 := rfl
  by_cases hc : c % 4 = 0
  · have fin : ∀ h : HM, vIx (.tup [.str (sg []), .str (Str.ofString "a"), .str (Str.ofString "hi;")]) (.int (mix c 9929 3)) h = .ok (.str (sg (ltext c))) h := fun h => by
      have e1 : Str.ofString "a" = sg [97] := by decide +kernel
      have e2 : Str.ofString "hi;" = sg [104, 105, 59] := by decide +kernel
      rw [e1, e2]
      have : mix c 9929 3 = 0 ∨ mix c 9929 3 = 1 ∨ mix c 9929 3 = 2 := by omega
      unfold ltext
      rcases this with z | z | z <;> simp [vIx, z, hc, atI_nat, ofO]
    by_cases h0 : mix c 9941 9 = 0
    · simp [at_mix, ev_modI, hc, h0, ev_mkTup, fin]
    · by_cases h1 : mix c 9941 9 = 1
      · simp [at_mix, ev_modI, hc, h0, h1, ev_mkTup, fin]
      · simp [at_mix, ev_modI, hc, h0, h1, ev_mkTup, fin]
  · have fin : ∀ n, textN c = n → sg (ltext c) = sg (drawn signsT c 9923 n.toNat) := fun n e => by rw [← e]; simp [ltext, hc]
    by_cases h0 : mix c 9941 9 = 0
    · simp [h0] at e
      simp [at_mix, ev_modI, hc, h0, -ev_eBm]
      rw [at_drawnJ (by decide) (by decide) (by omega) (by omega) (by decide), fin _ e]
      simp
    · by_cases h1 : mix c 9941 9 = 1
      · simp [h1] at e
        simp [at_mix, ev_modI, hc, h0, h1, -ev_eBm]
        rw [at_drawnJ (by decide) (by decide) (by omega) (by omega) (by decide), fin _ e]
        simp
      · simp [h1, h0] at e
        simp [at_mix, ev_modI, hc, h0, h1, -ev_eBm]
        rw [at_drawnJ (by decide) (by decide) (by omega) (by omega) (by decide), fin _ e]
        simp
theorem ltext_len (c : Int) : (ltext c).length ≤ 60 := by
  have := textN_ok c
  unfold ltext
  split
  · split <;> simp
  · simp; omega
def isText (v : Val) : Bool := match v with
  | .str x => decide (x.length ≤ 60)
  | _ => false
def isName (v : Val) : Bool := match v with
  | .str x => decide (1 ≤ x.length ∧ x.length ≤ 6) && x.cps.toList.all fun c => decide (c ∈ lets)
  | _ => false
/-- a value that isinstance can be asked of, a text not too long -/
def isAsk (v : Val) (h : HM) : Bool := (tyN v h).isSome && match v with
  | .str x => decide (x.length ≤ sizeLine)
  | _ => true
theorem isi_str {v : Val} {h : HM} (ha : (tyN v h).isSome = true) : bIsi [v, .ty "str"] h = .ok (.bl (match v with | .str _ => true | _ => false)) h := by
  have k : ∀ t : String, t ∈ ["NoneType", "bool", "int", "tuple", "list", "dict"] → kitB t "str" = some false := by decide +kernel
  have ks : kitB "str" "str" = some true := by decide +kernel
  cases v with
  | str x => simp [bIsi, tyN, ks]
  | ref n =>
    simp only [tyN] at ha
    simp only [bIsi, tyN]
    split at ha <;> first | (cases ha; done) | simp_all
  | non => simp [bIsi, tyN, k]
  | bl b => simp [bIsi, tyN, k]
  | int b => simp [bIsi, tyN, k]
  | tup b => simp [bIsi, tyN, k]
  | ptup b => simp [bIsi, tyN, k]
  | lst b => simp [bIsi, tyN, k]
  | _ => cases ha
theorem at_isText {v : Val} {h : HM} (ha : isAsk v h = true) : m_is_text [v] h = .ok (.bl (isText v)) h := by
  simp only [isAsk, Bool.and_eq_true] at ha
  obtain ⟨h1, h2⟩ := ha
  simp [m_is_text, mF, isi_str h1]
  cases v with
  | str x =>
    simp at h2
    simp [ev_lenS h2, isText]
    omega
  | _ => simp [isText]
theorem boolsOf_map (xs : List Bool) : boolsOf (xs.map Val.bl) = some xs := by
  induction xs with
  | nil => rfl
  | cons x xs ih => simp [boolsOf, ih]
theorem all_ok {α : Type} {xs : List α} {f : α → Bool} {h : HM} : bAll [.lst (xs.map fun x => .bl (f x))] h = .ok (.bl (xs.all f)) h := by
  have e : (xs.map fun x => Val.bl (f x)) = (xs.map f).map Val.bl := by simp
  simp only [bAll, seqL, Option.bind_some, e, boolsOf_map]
  simp [Function.comp_def]
theorem any_ok {α : Type} {xs : List α} {f : α → Bool} {h : HM} : bAny [.lst (xs.map fun x => .bl (f x))] h = .ok (.bl (xs.any f)) h := by
  have e : (xs.map fun x => Val.bl (f x)) = (xs.map f).map Val.bl := by simp
  simp only [bAny, seqL, Option.bind_some, e, boolsOf_map]
  simp [Function.comp_def]
theorem signs_map (x : List Nat) : signs (sg x) = x.map fun c => .str (sg [c]) := by simp [signs, sg_one]
@[simp] theorem in_sign {c : Nat} {L : List Nat} {h : HM} : vIn (.str (sg [c])) (.str (sg L)) h = .ok (.bl (decide (c ∈ L))) h := by
  simp [vIn, inB, inStr]
@[simp] theorem notIn_sign {c : Nat} {L : List Nat} {h : HM} : vNotIn (.str (sg [c])) (.str (sg L)) h = .ok (.bl (!decide (c ∈ L))) h := by
  simp [vNotIn, inB, inStr]
theorem at_isName {v : Val} {h : HM} (ha : isAsk v h = true) : m_is_name [v] h = .ok (.bl (isName v)) h := by
  simp only [isAsk, Bool.and_eq_true] at ha
  obtain ⟨h1, h2⟩ := ha
  unfold m_is_name mF
  rw [lets_eq]
  simp [isi_str h1]
  cases v with
  | str x =>
    simp at h2
    rw [sg_of x] at h2 ⊢
    generalize x.cps.toList = y at h2
    have h2' : y.length ≤ sizeLine := by simpa using h2
    simp [ev_lenS h2, srcOf]
    by_cases h3 : 1 ≤ y.length
    · have h3' : (1 : Int) ≤ y.length := by omega
      by_cases h4 : y.length ≤ 6
      · have h4' : (y.length : Int) ≤ 6 := by omega
        simp [h3', h4', isName, h3, h4]
        rw [signs_map, lc_map (f := fun v => match v with | .str z => .bl (decide (pick z.cps.toList 0 ∈ lets)) | _ => .non) (fun v hv => ?_) (by simpa using h2')]
        · simp only [Res.bind_ok, List.map_map, ev_frozen]
          simp [Function.comp_def, pick, all_ok, sg]
        · simp only [List.mem_map] at hv
          obtain ⟨c, _, rfl⟩ := hv
          exact ⟨_, rfl, by simp [wipeL, pick]⟩
      · have h4' : ¬ (y.length : Int) ≤ 6 := by omega
        simp [h3', h4', isName, h4]
    · have h3' : ¬ (1 : Int) ≤ y.length := by omega
      have h5 : y.length = 0 := by omega
      have h6 : ¬ 0 < (y.length : Int) := by omega
      simp [h3', isName, h3, h5, h6]
  | _ => simp [isName]
theorem cutL_to {α : Type} {x : List α} {n : Int} (hn : 0 ≤ n) : cutL x none (some n) = x.take n.toNat := by
  have h1 : ¬ n < 0 := by omega
  simp only [cutL, HT.sIx, h1, if_false, List.drop_zero, Nat.sub_zero]
  rw [Nat.min_def]
  split
  · rfl
  · rw [List.take_of_length_le (Nat.le_refl _), List.take_of_length_le (by omega)]
@[simp] theorem isText_sg {x : List Nat} : isText (.str (sg x)) = decide (x.length ≤ 60) := by simp [isText]
@[simp] theorem isName_sg {x : List Nat} : isName (.str (sg x)) = (decide (1 ≤ x.length ∧ x.length ≤ 6) && x.all fun c => decide (c ∈ lets)) := by simp [isName]
theorem at_cell' {ns : List Int} {k : Int} {h : HM} (hk : 0 ≤ k) : m_law_cell [.scr ns, .int k] h = .ok (.int (cell ns k)) h := by
  obtain ⟨n, rfl⟩ := Int.eq_ofNat_of_zero_le hk
  exact at_cell
end MM
namespace MM
open PySem L2
def m_law_same : Nat → FM
  | 0 => fun _ _ => .bad
  | d + 1 => mF 4 (sSeq (sIf (tTru (eBi bIsi (aCons (eVar 1) (aCons (eC (.ty "tuple")) (aNil))))) (sSeq (sIf (tOrM (tNotM (tTru (eBi bIsi (aCons (eVar 0) (aCons (eC (.ty "tuple")) (aNil)))))) (tOf (e2 vNe (eBi bLen (aCons (eVar 0) (aNil))) (eBi bLen (aCons (eVar 1) (aNil)))))) (sRet (eC (.bl false))) (sNil))
  (sRet (eBi bAll (aCons (eLc (iArgs zip2 (aCons (eVar 0) (aCons (eVar 1) (aNil)))) (gTp 2 (gsCons (gNm 2) (gsCons (gNm 3) (gsNil)))) (tYesM) (eCall (m_law_same d) (aCons (eVar 2) (aCons (eVar 3) (aNil)))) [2, 3] frozen) (aNil))))) (sNil))
  (sSeq (sIf (tOf (e2 vIs (eVar 1) (eC .non))) (sRet (e2 vIs (eVar 0) (eC .non))) (sNil))
  (sSeq (sIf (tOrM (tTru (eBi bIsi (aCons (eVar 1) (aCons (eC (.ty "bool")) (aNil))))) (tTru (eBi bIsi (aCons (eVar 0) (aCons (eC (.ty "bool")) (aNil)))))) (sRet (eAndM (eBi bIsi (aCons (eVar 1) (aCons (eC (.ty "bool")) (aNil)))) (eAndM (eBi bIsi (aCons (eVar 0) (aCons (eC (.ty "bool")) (aNil)))) (e2 vEq (eVar 0) (eVar 1))))) (sNil))
  (sRet (eAndM (eBi bIsi (aCons (eVar 0) (aCons (eDisp mkTup (aCons (eC (.ty "int")) (aCons (eC (.ty "str")) (aNil)))) (aNil)))) (e2 vEq (eVar 0) (eVar 1)))))))
def m_is_within : FM := mF 4 (sRet (eBi bAny (aCons (eLc (iVal (eVar 1)) (gTp 2 (gsCons (gNm 2) (gsCons (gNm 3) (gsNil)))) (tYesM) (eAndM (e2 vEq (eVar 2) (e2 vIx (eVar 0) (eC (.int 0)))) (e2 vGe (eVar 3) (e2 vIx (eVar 0) (eC (.int 1))))) [2, 3] frozen) (aNil))))
def m_has_heard : FM := mF 3 (sRet (eBi bAll (aCons (eLc (iVal (eVar 1)) (gNm 2) (tYesM) (eCall m_is_within (aCons (eVar 2) (aCons (eVar 0) (aNil)))) [2] frozen) (aNil))))
theorem isi_of {v : Val} {t u : String} {b : Bool} {h : HM} (e : tyN v h = some t) (k : kitB t u = some b) : bIsi [v, .ty u] h = .ok (.bl b) h := by simp [bIsi, e, k]
theorem isi2_of {v : Val} {t u w : String} {b c : Bool} {h : HM} (e : tyN v h = some t) (k : kitB t u = some b) (k2 : kitB t w = some c) : bIsi [v, .tup [.ty u, .ty w]] h = .ok (.bl (b || c)) h := by simp [bIsi, e, k, k2]
def tyTab (t u : String) : Bool := t == u || (t == "bool" && u == "int")
theorem kit_tab : ∀ t ∈ ["NoneType", "bool", "int", "str", "tuple", "list", "dict"], ∀ u ∈ ["bool", "int", "str", "tuple", "list"], kitB t u = some (tyTab t u) := by decide +kernel
/-- values that are asked of -/
def tyV (v : Val) : String := match v with
  | .non => "NoneType"
  | .bl _ => "bool"
  | .int _ => "int"
  | .str _ => "str"
  | .tup _ => "tuple"
  | .ptup _ => "tuple"
  | .lst _ => "list"
  | _ => ""
def isV (v : Val) : Bool := match v with
  | .non => true
  | .bl _ => true
  | .int _ => true
  | .str _ => true
  | .tup _ => true
  | .ptup _ => true
  | .lst _ => true
  | _ => false
theorem isi_tab {v : Val} {u : String} {h : HM} (hv : isV v = true) (hu : u ∈ ["bool", "int", "str", "tuple", "list"]) : bIsi [v, .ty u] h = .ok (.bl (tyTab (tyV v) u)) h := by
  have e : tyN v h = some (tyV v) := by cases v <;> first | rfl | cases hv
  have m : tyV v ∈ ["NoneType", "bool", "int", "str", "tuple", "list", "dict"] := by cases v <;> first | (simp [tyV]; done) | cases hv
  exact isi_of e (kit_tab _ m _ hu)
theorem isi2_tab {v : Val} {u w : String} {h : HM} (hv : isV v = true) (hu : u ∈ ["bool", "int", "str", "tuple", "list"]) (hw : w ∈ ["bool", "int", "str", "tuple", "list"]) : bIsi [v, .tup [.ty u, .ty w]] h = .ok (.bl (tyTab (tyV v) u || tyTab (tyV v) w)) h := by
  have e : tyN v h = some (tyV v) := by cases v <;> first | rfl | cases hv
  have m : tyV v ∈ ["NoneType", "bool", "int", "str", "tuple", "list", "dict"] := by cases v <;> first | (simp [tyV]; done) | cases hv
  exact isi2_of e (kit_tab _ m _ hu) (kit_tab _ m _ hw)
mutual
def sameB : Val → Val → Bool
  | f, .tup ds => (match tupL f with
    | some fs => sameBs fs ds
    | none => false)
  | f, .ptup ds => (match tupL f with
    | some fs => sameBs fs ds
    | none => false)
  | f, .non => (match f with
    | .non => true
    | _ => false)
  | f, .bl b => (match f with
    | .bl a => decide (a = b)
    | _ => false)
  | f, .int b => (match f with
    | .int a => decide (a = b)
    | _ => false)
  | f, .str b => (match f with
    | .str a => decide (a = b)
    | _ => false)
  | _, _ => false
def sameBs : List Val → List Val → Bool
  | [], [] => true
  | f :: fs, d :: ds => sameB f d && sameBs fs ds
  | _, _ => false
end
/-- tuples (to a depth), none, truths, ints, texts -/
def pl : Nat → Val → Bool
  | _, .non => true
  | _, .bl _ => true
  | _, .int _ => true
  | _, .str x => PyData.strOk x
  | d + 1, .tup xs => decide (xs.length ≤ 1000000) && xs.all (pl d)
  | d + 1, .ptup xs => decide (xs.length ≤ 1000000) && xs.all (pl d)
  | _, _ => false
theorem pl_isV {d : Nat} {v : Val} (h : pl d v = true) : isV v = true := by
  cases v <;> first | rfl | (cases d <;> cases h)
theorem sameBs_len {fs ds : List Val} (h : fs.length ≠ ds.length) : sameBs fs ds = false := by
  induction fs generalizing ds with
  | nil => cases ds with
    | nil => simp at h
    | cons d ds => simp [sameBs]
  | cons f fs ih => cases ds with
    | nil => simp [sameBs]
    | cons d ds => simp only [sameBs]; rw [ih (by simpa using h)]; simp
theorem sameBs_zip {fs ds : List Val} (h : fs.length = ds.length) : sameBs fs ds = (fs.zip ds).all fun p => sameB p.1 p.2 := by
  induction fs generalizing ds with
  | nil => cases ds with
    | nil => simp [sameBs]
    | cons d ds => simp at h
  | cons f fs ih => cases ds with
    | nil => simp at h
    | cons d ds => simp only [sameBs, List.zip_cons_cons, List.all_cons]; rw [ih (by simpa using h)]
theorem zipV_map (fs ds : List Val) : zipV fs ds = (fs.zip ds).map fun p => .tup [p.1, p.2] := by
  induction fs generalizing ds with
  | nil => cases ds <;> rfl
  | cons f fs ih => cases ds with
    | nil => rfl
    | cons d ds => simp [zipV, ih]
theorem shStr {a : Str} (h : PyData.strOk a = true) : SeqAt.shaped (.str a) = true := by
  show (PyData.canLay0 (.str a) && decide (PyData.depth (.str a) ≤ 64)) = true
  simp [PyData.canLay0, h, PyData.depth]
theorem eqS {a b : Str} {h : HM} (ha : PyData.strOk a = true) (hb : PyData.strOk b = true) : vEq (.str a) (.str b) h = .ok (.bl (decide (a = b))) h := by
  have e : PyData.eqv (.str a) (.str b) = decide (a = b) := by
    show (a == b) = _
    by_cases e : a = b <;> simp [e]
  show (if (SeqAt.shaped (.str a) && SeqAt.shaped (.str b)) = true then (Res.ok (Val.bl (PyData.eqv (.str a) (.str b))) h : Res Val) else .bad) = _
  rw [e, shStr ha, shStr hb]
  rfl
theorem eqB {a b : Bool} {h : HM} : vEq (.bl a) (.bl b) h = .ok (.bl (decide (a = b))) h := by
  have e : PyData.eqv (.bool a) (.bool b) = decide (a = b) := by
    show (a == b) = _
    cases a <;> cases b <;> rfl
  show (if (SeqAt.shaped (.bool a) && SeqAt.shaped (.bool b)) = true then (Res.ok (Val.bl (PyData.eqv (.bool a) (.bool b))) h : Res Val) else .bad) = _
  rw [e]
  rfl
theorem eqIS {a : Int} {b : Str} {h : HM} (hb : PyData.strOk b = true) : vEq (.int a) (.str b) h = .ok (.bl false) h := by
  show (if (SeqAt.shaped (.int a) && SeqAt.shaped (.str b)) = true then (Res.ok (Val.bl (PyData.eqv (.int a) (.str b))) h : Res Val) else .bad) = _
  rw [shStr hb]; rfl
theorem eqSI {a : Str} {b : Int} {h : HM} (ha : PyData.strOk a = true) : vEq (.str a) (.int b) h = .ok (.bl false) h := by
  show (if (SeqAt.shaped (.str a) && SeqAt.shaped (.int b)) = true then (Res.ok (Val.bl (PyData.eqv (.str a) (.int b))) h : Res Val) else .bad) = _
  rw [shStr ha]; rfl
@[simp] theorem ev_neI {a b : Int} {h : HM} : vNe (.int a) (.int b) h = .ok (.bl (!decide (a = b))) h := by
  have e : PyData.eqv (.int a) (.int b) = decide (a = b) := by
    show (a == b) = _
    by_cases e : a = b <;> simp [e]
  show (if (SeqAt.shaped (.int a) && SeqAt.shaped (.int b)) = true then (Res.ok (Val.bl (!PyData.eqv (.int a) (.int b))) h : Res Val) else .bad) = _
  rw [e]
  rfl
/-- the tuple case, the items done -/
theorem same_tup {d : Nat} {f e : Val} {fs ds : List Val} {h : HM} (hf : tupL f = some fs) (he : tupL e = some ds) (hfl : fs.length ≤ 1000000) (hds : ds.length ≤ 1000000)
    (ih : ∀ x ∈ fs.zip ds, m_law_same d [x.1, x.2] h = .ok (.bl (sameB x.1 x.2)) h) : m_law_same (d + 1) [f, e] h = .ok (.bl (sameBs fs ds)) h := by
  have vf : isV f = true := by cases f <;> first | rfl | cases hf
  have ve : isV e = true := by cases e <;> first | rfl | cases he
  have tf : tyV f = "tuple" := by cases f <;> first | rfl | cases hf
  have te : tyV e = "tuple" := by cases e <;> first | rfl | cases he
  have lf : bLen [f] h = .ok (.int fs.length) h := by cases f <;> first | (cases hf; rfl) | cases hf
  have le : bLen [e] h = .ok (.int ds.length) h := by cases e <;> first | (cases he; rfl) | cases he
  have zz : zip2 [f, e] h = .ok (srcItems ((fs.zip ds).map fun p => .tup [p.1, p.2])) h := by
    have : zip2 [f, e] h = .ok (srcItems (zipV fs ds)) h := by
      cases f <;> first | (cases hf; cases e <;> first | (cases he; rfl) | cases he) | cases hf
    rw [this, zipV_map]
  unfold m_law_same mF
  by_cases hl : fs.length = ds.length
  · have hl' : (fs.length : Int) = ds.length := by omega
    simp [isi_tab vf, isi_tab ve, tf, te, tyTab, lf, le, hl', zz]
    rw [lc_mapM (f := fun p => .bl (sameB p.1 p.2)) (fun p hp => ⟨_, rfl, by simp [wipeL, ih p hp]⟩) (by rw [sizeLine_eq]; simp; omega)]
    simp [all_ok, sameBs_zip hl]
  · have hl' : ¬ (fs.length : Int) = ds.length := by omega
    simp [isi_tab vf, isi_tab ve, tf, te, tyTab, lf, le, hl', sameBs_len hl]
theorem same_mix {d : Nat} {f e : Val} {h : HM} (vf : isV f = true) (hf : tupL f = none) (ve : tyV e = "tuple") (hv : isV e = true) : m_law_same (d + 1) [f, e] h = .ok (.bl false) h := by
  have tf : tyTab (tyV f) "tuple" = false := by cases f <;> first | rfl | (cases vf; done) | (cases hf; done)
  unfold m_law_same mF
  simp [isi_tab vf, isi_tab hv, tf, ve]
  simp [tyTab]
theorem isi_non {u : String} {h : HM} (hu : u ∈ ["bool", "int", "str", "tuple", "list"]) : bIsi [.non, .ty u] h = .ok (.bl false) h := by
  rw [isi_tab rfl hu]; simp at hu; rcases hu with rfl | rfl | rfl | rfl | rfl <;> rfl
theorem isi_bl {u : String} {b : Bool} {h : HM} (hu : u ∈ ["bool", "int", "str", "tuple", "list"]) : bIsi [.bl b, .ty u] h = .ok (.bl (u == "bool" || u == "int")) h := by
  rw [isi_tab rfl hu]; simp at hu; rcases hu with rfl | rfl | rfl | rfl | rfl <;> rfl
theorem isi_int {u : String} {b : Int} {h : HM} (hu : u ∈ ["bool", "int", "str", "tuple", "list"]) : bIsi [.int b, .ty u] h = .ok (.bl (u == "int")) h := by
  rw [isi_tab rfl hu]; simp at hu; rcases hu with rfl | rfl | rfl | rfl | rfl <;> rfl
theorem isi_st {u : String} {b : Str} {h : HM} (hu : u ∈ ["bool", "int", "str", "tuple", "list"]) : bIsi [.str b, .ty u] h = .ok (.bl (u == "str")) h := by
  rw [isi_tab rfl hu]; simp at hu; rcases hu with rfl | rfl | rfl | rfl | rfl <;> rfl
theorem isi_tup {u : String} {b : List Val} {h : HM} (hu : u ∈ ["bool", "int", "str", "tuple", "list"]) : bIsi [.tup b, .ty u] h = .ok (.bl (u == "tuple")) h := by
  rw [isi_tab rfl hu]; simp at hu; rcases hu with rfl | rfl | rfl | rfl | rfl <;> rfl
theorem isi_ptup {u : String} {b : List Val} {h : HM} (hu : u ∈ ["bool", "int", "str", "tuple", "list"]) : bIsi [.ptup b, .ty u] h = .ok (.bl (u == "tuple")) h := by
  rw [isi_tab rfl hu]; simp at hu; rcases hu with rfl | rfl | rfl | rfl | rfl <;> rfl
def isIS : Val → Bool
  | .int _ => true
  | .bl _ => true
  | .str _ => true
  | _ => false
theorem isi_is {v : Val} {h : HM} (hv : isV v = true) : bIsi [v, .tup [.ty "int", .ty "str"]] h = .ok (.bl (isIS v)) h := by
  rw [isi2_tab hv (by simp) (by simp)]
  cases v <;> first | (cases hv; done) | rfl
@[simp] theorem isis_non {h : HM} : bIsi [.non, .tup [.ty "int", .ty "str"]] h = .ok (.bl false) h := by rw [isi_is rfl]; rfl
@[simp] theorem isis_bl {b : Bool} {h : HM} : bIsi [.bl b, .tup [.ty "int", .ty "str"]] h = .ok (.bl true) h := by rw [isi_is rfl]; rfl
@[simp] theorem isis_int {b : Int} {h : HM} : bIsi [.int b, .tup [.ty "int", .ty "str"]] h = .ok (.bl true) h := by rw [isi_is rfl]; rfl
@[simp] theorem isis_str {b : Str} {h : HM} : bIsi [.str b, .tup [.ty "int", .ty "str"]] h = .ok (.bl true) h := by rw [isi_is rfl]; rfl
@[simp] theorem isis_tup {b : List Val} {h : HM} : bIsi [.tup b, .tup [.ty "int", .ty "str"]] h = .ok (.bl false) h := by rw [isi_is rfl]; rfl
@[simp] theorem isis_ptup {b : List Val} {h : HM} : bIsi [.ptup b, .tup [.ty "int", .ty "str"]] h = .ok (.bl false) h := by rw [isi_is rfl]; rfl
@[simp] theorem isis_lst {b : List Val} {h : HM} : bIsi [.lst b, .tup [.ty "int", .ty "str"]] h = .ok (.bl false) h := by rw [isi_is rfl]; rfl
@[simp] theorem isNB {b : Bool} {h : HM} : vIs (.bl b) .non h = .ok (.bl false) h := rfl
@[simp] theorem isNI {b : Int} {h : HM} : vIs (.int b) .non h = .ok (.bl false) h := rfl
@[simp] theorem isNS {b : Str} {h : HM} : vIs (.str b) .non h = .ok (.bl false) h := rfl
@[simp] theorem isNT {b : List Val} {h : HM} : vIs (.tup b) .non h = .ok (.bl false) h := rfl
@[simp] theorem isNP {b : List Val} {h : HM} : vIs (.ptup b) .non h = .ok (.bl false) h := rfl
@[simp] theorem isNN {h : HM} : vIs .non .non h = .ok (.bl true) h := rfl
theorem same_flat {d k : Nat} {f e : Val} {h : HM} (hf : pl k f = true) (hs : ∀ x, e = .str x → PyData.strOk x = true) (he : e = .non ∨ (∃ b, e = .bl b) ∨ (∃ i, e = .int i) ∨ ∃ x, e = .str x) : m_law_same (d + 1) [f, e] h = .ok (.bl (sameB f e)) h := by
  unfold m_law_same mF
  cases f with
  | non => rcases he with rfl | ⟨b, rfl⟩ | ⟨b, rfl⟩ | ⟨b, rfl⟩ <;> simp [isi_non, isi_bl, isi_int, isi_st, sameB]
  | bl c => rcases he with rfl | ⟨b, rfl⟩ | ⟨b, rfl⟩ | ⟨b, rfl⟩ <;> simp [isi_non, isi_bl, isi_int, isi_st, sameB, eqB]
  | int c => rcases he with rfl | ⟨b, rfl⟩ | ⟨b, rfl⟩ | ⟨b, rfl⟩ <;> first | simp [isi_non, isi_bl, isi_int, isi_st, sameB, eqIS (hs _ rfl)] | simp [isi_non, isi_bl, isi_int, isi_st, sameB]
  | str c =>
    have hc : PyData.strOk c = true := by cases k <;> exact hf
    rcases he with rfl | ⟨b, rfl⟩ | ⟨b, rfl⟩ | ⟨b, rfl⟩ <;> first | simp [isi_non, isi_bl, isi_int, isi_st, sameB, eqS hc (hs _ rfl)] | simp [isi_non, isi_bl, isi_int, isi_st, sameB, eqSI hc]
  | tup c => rcases he with rfl | ⟨b, rfl⟩ | ⟨b, rfl⟩ | ⟨b, rfl⟩ <;> simp [isi_non, isi_bl, isi_int, isi_st, isi_tup, sameB]
  | ptup c => rcases he with rfl | ⟨b, rfl⟩ | ⟨b, rfl⟩ | ⟨b, rfl⟩ <;> simp [isi_non, isi_bl, isi_int, isi_st, isi_ptup, sameB]
  | _ => cases k <;> cases hf
theorem at_same : ∀ (d : Nat) (f e : Val) (h : HM), pl d f = true → pl d e = true → m_law_same (d + 1) [f, e] h = .ok (.bl (sameB f e)) h := by
  intro d
  induction d with
  | zero =>
    intro f e h hf he
    refine same_flat hf (fun x z => by cases z <;> exact he) ?_
    cases e with
    | non => exact .inl rfl
    | bl b => exact .inr (.inl ⟨_, rfl⟩)
    | int b => exact .inr (.inr (.inl ⟨_, rfl⟩))
    | str b => exact .inr (.inr (.inr ⟨_, rfl⟩))
    | _ => cases he
  | succ d ih =>
    intro f e h hf he
    have key : ∀ {fs ds : List Val}, tupL f = some fs → tupL e = some ds → m_law_same (d + 1 + 1) [f, e] h = .ok (.bl (sameBs fs ds)) h := by
      intro fs ds h1 h2
      have g1 : fs.length ≤ 1000000 ∧ ∀ x ∈ fs, pl d x = true := by
        cases f <;> first | (cases h1; simp [pl] at hf; exact hf) | cases h1
      have g2 : ds.length ≤ 1000000 ∧ ∀ x ∈ ds, pl d x = true := by
        cases e <;> first | (cases h2; simp [pl] at he; exact he) | cases h2
      exact same_tup h1 h2 g1.1 g2.1 fun x hx => ih x.1 x.2 h (g1.2 _ (List.of_mem_zip hx).1) (g2.2 _ (List.of_mem_zip hx).2)
    cases e with
    | tup ds =>
      cases hfs : tupL f with
      | none => rw [same_mix (pl_isV hf) hfs rfl rfl]; simp [sameB, hfs]
      | some fs => rw [key hfs rfl]; simp [sameB, hfs]
    | ptup ds =>
      cases hfs : tupL f with
      | none => rw [same_mix (pl_isV hf) hfs rfl rfl]; simp [sameB, hfs]
      | some fs => rw [key hfs rfl]; simp [sameB, hfs]
    | non => exact same_flat hf (fun x z => by cases z <;> exact he) (.inl rfl)
    | bl b => exact same_flat hf (fun x z => by cases z <;> exact he) (.inr (.inl ⟨_, rfl⟩))
    | int b => exact same_flat hf (fun x z => by cases z <;> exact he) (.inr (.inr (.inl ⟨_, rfl⟩)))
    | str b => exact same_flat hf (fun x z => by cases z <;> exact he) (.inr (.inr (.inr ⟨_, rfl⟩)))
    | _ => cases he
def s_law_same : FM := fun xs h => match xs with
  | [f, e] => if (pl 30 f && pl 30 e) = true then .ok (.bl (sameB f e)) h else .bad
  | _ => .bad
theorem le_law_same (xs : List Val) (h : HM) (_ : xs.length = 2) (_ : Wf h) (_ : CloS h.length xs) : Le h (s_law_same xs h) (m_law_same 31 xs h) := by
  match xs with
  | [f, e] =>
    show Le h (if (pl 30 f && pl 30 e) = true then _ else _) _
    split
    · rename_i hp
      rw [Bool.and_eq_true] at hp
      rw [at_same 30 f e h hp.1 hp.2]
      exact .same
    · exact .bad
theorem same_ok {f e : Val} {h : HM} (hf : pl 30 f = true) (he : pl 30 e = true) : s_law_same [f, e] h = .ok (.bl (sameB f e)) h := by simp [s_law_same, hf, he]
abbrev Mk := Int × Int
def eM (m : Mk) : Val := .tup [.int m.1, .int m.2]
def within (m : Mk) (ks : List Mk) : Bool := ks.any fun k => decide (k.1 = m.1) && decide (m.2 ≤ k.2)
theorem src_tup {v : Val} {xs : List Val} {h : HM} (e : tupL v = some xs) : srcOf v h = .ok (srcItems xs) h := by
  cases v <;> first | (cases e; rfl) | cases e
@[simp] theorem ix0 {x : Val} {xs : List Val} {h : HM} : vIx (.tup (x :: xs)) (.int 0) h = .ok x h := by
  show ofO (atI (x :: xs) 0) h = _
  rw [atI_nat (by decide)]; rfl
@[simp] theorem ix1 {x y : Val} {xs : List Val} {h : HM} : vIx (.tup (x :: y :: xs)) (.int 1) h = .ok y h := by
  show ofO (atI (x :: y :: xs) 1) h = _
  rw [atI_nat (by decide)]; rfl
theorem at_within {m : Mk} {ks : List Mk} {v : Val} {h : HM} (e : tupL v = some (ks.map eM)) (hl : ks.length ≤ 1000000) : m_is_within [eM m, v] h = .ok (.bl (within m ks)) h := by
  unfold m_is_within mF
  simp [src_tup e]
  rw [lc_mapM (f := fun k : Mk => .bl (decide (k.1 = m.1) && decide (m.2 ≤ k.2))) (fun k hk => ⟨_, rfl, ?_⟩) (by rw [sizeLine_eq]; omega)]
  · simp [any_ok, within]
  · simp only [wipeL, List.set, eM]
    by_cases h1 : k.1 = m.1 <;> simp [h1]
def heard (ks ms : List Mk) : Bool := ms.all fun m => within m ks
theorem at_heard {ks ms : List Mk} {v w : Val} {h : HM} (e : tupL v = some (ks.map eM)) (e2 : tupL w = some (ms.map eM)) (hl : ks.length ≤ 1000000) (hl2 : ms.length ≤ 1000000) : m_has_heard [v, w] h = .ok (.bl (heard ks ms)) h := by
  unfold m_has_heard mF
  simp [src_tup e2]
  rw [lc_mapM (f := fun m : Mk => .bl (within m ks)) (fun k hk => ⟨_, rfl, by simp [wipeL, at_within e hl]⟩) (by rw [sizeLine_eq]; omega)]
  simp [all_ok, heard]
@[simp] theorem last_get {h : HM} {o : Ob} : (h ++ [o])[List.length h]? = some o := by
  rw [List.getElem?_append_right (Nat.le_refl _)]; simp
@[simp] theorem last_set {h : HM} {o o' : Ob} : List.set (h ++ [o]) (List.length h) o' = h ++ [o'] := by
  simp [List.set_append]
@[simp] theorem kd_last {h : HM} {ys : List Val} : isKd .list (.ref (List.length h)) (h ++ [.lst ys]) = true := by
  simp [isKd, seqL]
@[simp] theorem seq_last {h : HM} {ys : List Val} : seqL (.ref (List.length h)) (h ++ [.lst ys]) = some ys := by
  simp [seqL]
/-- what the law draws as known, forgetting how -/
def isMk : Val → Option Mk
  | .tup [.int a, .int b] => some (a, b)
  | _ => none
theorem isMk_eM (w : Mk) : isMk (eM w) = some w := rfl
theorem eM_of {v : Val} {w : Mk} (e : isMk v = some w) : v = eM w := by
  unfold isMk at e
  split at e
  · cases e; rfl
  · cases e
theorem frz_mks {h : HM} {n : Nat} (ks : List Mk) : FrzS h n (ks.map eM) (ks.map eM) := by
  induction ks with
  | nil => exact .nil
  | cons k ks ih => exact .cons (.tup (.cons (.int _) (.cons (.int _) .nil))) ih
end MM
namespace MM
open PySem L2
section
variable {h : HM} {o o' p : Ob} {n : Nat}
@[simp] theorem get_at {l : HM} {k : Nat} : (h ++ l)[List.length h + k]? = l[k]? := by
  rw [List.getElem?_append_right (by omega)]; congr 1; omega
@[simp] theorem get_at0 {l : HM} : (h ++ l)[List.length h]? = l[0]? := by
  rw [List.getElem?_append_right (by omega)]; congr 1; omega
@[simp] theorem set_at {l : HM} {k : Nat} : List.set (h ++ l) (List.length h + k) o = h ++ l.set k o := by
  simp [List.set_append]
@[simp] theorem set_at0 {l : HM} : List.set (h ++ l) (List.length h) o = h ++ l.set 0 o := by
  simp [List.set_append]
end
@[simp] theorem ev_eLock {which m : EM} {l : Loc} {h : HM} : eLock which m l h = match which l h with
  | .ok (.ref n) _ => (match h[n]? with
    | some o => (match lockO o with
      | some o' => (match m l (h.set n o') with
        | .ok v h' => .ok v (h'.set n o)
        | _ => .bad)
      | none => .bad)
    | none => .bad)
  | _ => .bad := rfl
@[simp] theorem ev_iKeysA {m : EM} {l : Loc} {h : HM} : iKeysA m l h = (m l h).bind keysSrc := rfl
@[simp] theorem ev_eGet2 {mo me mf : EM} {l : Loc} {h : HM} : eGet2 mo me mf l h = (mo l h).bind fun o h1 => match o with
  | .ref n => if isDict n h1 = true then (me l h1).bind fun y h2 => (mf l h2).bind fun z h3 => match dGet n y h3 with
    | some (some v) => .ok v h3
    | some none => .ok z h3
    | none => .bad else .bad
  | _ => .bad := rfl
def kvI (ks : List Mk) : List (Key × Val) := ks.map fun m => (.inl m.1, .int m.2)
def look (ks : List Mk) (j : Int) : Option Int := (ks.find? fun m => decide (m.1 = j)).map (·.2)
theorem getK_kvI {ks : List Mk} {j : Int} : getK (kvI ks) (.inl j) = (look ks j).map .int := by
  unfold getK kvI look
  induction ks with
  | nil => rfl
  | cons m ks ih =>
    simp only [List.map_cons, List.find?_cons]
    by_cases h : m.1 = j
    · simp [h]
    · have h' : ¬ ((Sum.inl m.1 : Key) = .inl j) := fun e => h (Sum.inl.inj e)
      simp only [h, h', decide_false]
      exact ih
theorem pairs_kvI {ks : List Mk} : pairsBy keyOf (ks.map eM) = some (kvI ks) := by
  induction ks with
  | nil => rfl
  | cons m ks ih => simp only [List.map_cons, eM, pairsBy, keyOf, ih]; rfl
theorem merge_new {κ : Type} [DecidableEq κ] : ∀ {more acc : List (κ × Val)}, (more.map (·.1)).Nodup → (∀ p ∈ more, ∀ q ∈ acc, p.1 ≠ q.1) → mergeV acc more = acc ++ more
  | [], acc, _, _ => by simp [mergeV]
  | p :: more, acc, nd, h => by
    simp only [List.map_cons, List.nodup_cons] at nd
    have e : putV acc p.1 p.2 = acc ++ [p] := by
      unfold putV
      rw [if_neg]
      simp only [List.any_eq_true, not_exists, not_and]
      intro q hq
      simpa using fun e => h p List.mem_cons_self q hq e.symm
    show mergeV (putV acc p.1 p.2) more = _
    rw [e, merge_new nd.2 (fun q hq r hr => ?_), List.append_assoc]
    · rfl
    · rcases List.mem_append.mp hr with hr | hr
      · exact h q (List.mem_cons_of_mem _ hq) r hr
      · simp at hr
        subst hr
        exact fun e => nd.1 (e ▸ List.mem_map_of_mem hq)
theorem merge_kvI {ks : List Mk} (nd : (ks.map (·.1)).Nodup) : mergeV [] (kvI ks) = kvI ks := by
  rw [merge_new (by
    have : (kvI ks).map (·.1) = (ks.map (·.1)).map Sum.inl := by simp [kvI]
    rw [this]
    exact List.pairwise_map.mpr (nd.imp fun h e => h (Sum.inl.inj e))) (by simp)]
  rfl
theorem keys_kvI {ks : List Mk} : (kvI ks).map (fun p => keyV p.1) = ks.map fun m => .int m.1 := by simp [kvI, keyV]
theorem look_some {ks : List Mk} (nd : (ks.map (·.1)).Nodup) {m : Mk} (hm : m ∈ ks) : look ks m.1 = some m.2 := by
  unfold look
  induction ks with
  | nil => cases hm
  | cons k ks ih =>
    simp only [List.map_cons, List.nodup_cons] at nd
    rcases List.mem_cons.mp hm with rfl | hm
    · simp
    · have : ¬ k.1 = m.1 := fun e => nd.1 (e ▸ List.mem_map_of_mem hm)
      simp only [List.find?_cons, this, decide_false]
      exact ih nd.2 hm
theorem look_mem {ks : List Mk} {j c : Int} (e : look ks j = some c) : (j, c) ∈ ks := by
  unfold look at e
  simp only [Option.map_eq_some_iff] at e
  obtain ⟨m, h1, rfl⟩ := e
  have h2 := List.mem_of_find?_eq_some h1
  have h3 := List.find?_some h1
  simp at h3
  subst h3
  exact h2
theorem look_none {ks : List Mk} {j : Int} (e : look ks j = none) : ∀ m ∈ ks, m.1 ≠ j := by
  unfold look at e
  simp only [Option.map_eq_none_iff, List.find?_eq_none] at e
  intro m hm h
  have := e m hm
  simp [h] at this
/-- within, by what stands at the house -/
theorem within_look {ks : List Mk} (nd : (ks.map (·.1)).Nodup) {j c : Int} : within (j, c) ks = match look ks j with | some d => decide (c ≤ d) | none => false := by
  unfold within
  cases e : look ks j with
  | none =>
    simp only [List.any_eq_false]
    intro m hm
    have := look_none e m hm
    simp [this]
  | some d =>
    have hd := look_mem e
    dsimp only
    by_cases h : c ≤ d
    · rw [decide_eq_true h, List.any_eq_true]
      exact ⟨(j, d), hd, by simp [h]⟩
    · rw [decide_eq_false h, List.any_eq_false]
      intro m hm
      by_cases h1 : m.1 = j
      · have h2 := look_some nd hm
        rw [h1, e] at h2
        have : d = m.2 := Option.some.inj h2
        simp [h1]; omega
      · simp [h1]
end MM
namespace MM
open PySem L2 PySem.W
/-- how a thing stands as a value -/
class Enc (α : Type) [DecidableEq α] extends DatumOrd α where
  enc : α → Val
  dat : ∀ a, datF (enc a) = some (toD a)
  noP : ∀ a, noP (enc a) = true
  ok : α → Prop
  lay : ∀ a, ok a → (toD a).canLay0 = true
open Enc
instance : Enc Int where
  enc := .int
  dat a := rfl
  noP a := rfl
  ok _ := True
  lay a _ := rfl
instance : Enc Str where
  enc := .str
  dat a := rfl
  noP a := rfl
  ok x := PyData.strOk x = true
  lay a h := h
section
variable {α β : Type} [DecidableEq α] [Enc α] [DecidableEq β] [Enc β]
theorem datFs_map (xs : List α) : datFs (xs.map enc) = some (xs.map Datum.toD) := by
  induction xs with
  | nil => rfl
  | cons x xs ih => simp [datFs, Enc.dat, ih]
theorem noPs_map (xs : List α) : noPs (xs.map enc) = true := by
  induction xs with
  | nil => rfl
  | cons x xs ih => simp [noPs, Enc.noP, ih]
instance : Enc (α × β) where
  enc p := .tup [enc p.1, enc p.2]
  dat p := by
    show (datFs [enc p.1, enc p.2]).map PyData.tuple = _
    simp only [datFs, Enc.dat]
    rfl
  noP p := by
    show noPs [enc p.1, enc p.2] = true
    simp [noPs, Enc.noP]
  ok p := ok p.1 ∧ ok p.2
  lay p h := by
    show PyData.canLay0 (.tuple [Datum.toD p.1, Datum.toD p.2]) = true
    simp [PyData.canLay0, PyData.canLayAll0, Enc.lay _ h.1, Enc.lay _ h.2]
theorem dat_eq {v : Val} {d : PyData} {h : HM} (e : datF v = some d) : dat v h = some d := by
  cases v <;> first | exact e | cases e
theorem lay_all {xs : List α} (hx : ∀ x ∈ xs, ok x) : PyData.canLayAll0 (xs.map Datum.toD) = true := by
  induction xs with
  | nil => rfl
  | cons x xs ih => simp [PyData.canLayAll0, Enc.lay x (hx x List.mem_cons_self), ih fun y hy => hx y (List.mem_cons_of_mem _ hy)]
theorem sh_one {a : α} (ha : ok a) (hd : Datum.depth α ≤ 50) : SeqAt.shaped (Datum.toD a) = true := by
  have := Datum.depth_le a
  unfold SeqAt.shaped
  rw [Enc.lay a ha]
  simp; omega
theorem sh_list {xs : List α} (hx : ∀ x ∈ xs, ok x) (hd : Datum.depth α ≤ 50) : SeqAt.shaped (.list (xs.map Datum.toD)) = true := by
  have := PySem.W.depthAll_map xs
  unfold SeqAt.shaped
  simp only [PyData.canLay0, lay_all hx, PyData.depth]
  simp; omega
theorem sh_tup {xs : List α} (hx : ∀ x ∈ xs, ok x) (hd : Datum.depth α ≤ 50) : SeqAt.shaped (.tuple (xs.map Datum.toD)) = true := by
  have := PySem.W.depthAll_map xs
  unfold SeqAt.shaped
  simp only [PyData.canLay0, lay_all hx, PyData.depth]
  simp; omega
theorem any_eqE {a : α} {xs : List α} : anyEq (Datum.toD a) (xs.map Datum.toD) = decide (a ∈ xs) := by
  unfold anyEq
  rw [List.any_map]
  induction xs with
  | nil => rfl
  | cons x xs ih =>
    rw [List.any_cons, ih]
    simp only [Function.comp, Datum.eqv]
    by_cases h : x = a
    · subst h; simp
    · have h' : ¬ a = x := fun e => h e.symm
      by_cases h2 : a ∈ xs <;> simp [h, h', h2]
theorem in_lst {a : α} {xs : List α} {h : HM} (ha : ok a) (hx : ∀ x ∈ xs, ok x) (hd : Datum.depth α ≤ 50 := by decide) : inB (enc a) (.lst (xs.map enc)) h = some (decide (a ∈ xs)) := by
  have e : inB (enc a) (.lst (xs.map enc)) h = (match dat (enc a) h, dat (.lst (xs.map enc)) h with
    | some d, some (.list ds) => if (SeqAt.shaped d && SeqAt.shaped (.list ds)) = true then some (anyEq d ds) else none
    | some d, some (.tuple ds) => if (SeqAt.shaped d && SeqAt.shaped (.tuple ds)) = true then some (anyEq d ds) else none
    | _, _ => none) := by cases hv : enc a <;> rfl
  have e2 : dat (.lst (xs.map enc)) h = some (.list (xs.map Datum.toD)) := by
    show (datFs (xs.map enc)).map PyData.list = _
    rw [datFs_map]; rfl
  rw [e, dat_eq (Enc.dat a), e2]
  simp only [sh_one ha hd, sh_list hx hd, Bool.and_self, if_true, any_eqE]
theorem in_tup {a : α} {xs : List α} {v : Val} {h : HM} (hv : tupL v = some (xs.map enc)) (ha : ok a) (hx : ∀ x ∈ xs, ok x) (hd : Datum.depth α ≤ 50 := by decide) : inB (enc a) v h = some (decide (a ∈ xs)) := by
  have e : inB (enc a) v h = (match dat (enc a) h, dat v h with
    | some d, some (.list ds) => if (SeqAt.shaped d && SeqAt.shaped (.list ds)) = true then some (anyEq d ds) else none
    | some d, some (.tuple ds) => if (SeqAt.shaped d && SeqAt.shaped (.tuple ds)) = true then some (anyEq d ds) else none
    | _, _ => none) := by cases v <;> first | (cases hv; done) | (cases hw : enc a <;> rfl)
  have e2 : dat v h = some (.tuple (xs.map Datum.toD)) := by
    cases v <;> first
      | (cases hv; done)
      | (cases hv; show (datFs (xs.map enc)).map PyData.tuple = _; rw [datFs_map]; rfl)
  rw [e, dat_eq (Enc.dat a), e2]
  simp only [sh_one ha hd, sh_tup hx hd, Bool.and_self, if_true, any_eqE]
theorem vNotIn_lst {a : α} {xs : List α} {h : HM} (ha : ok a) (hx : ∀ x ∈ xs, ok x) (hd : Datum.depth α ≤ 50 := by decide) : vNotIn (enc a) (.lst (xs.map enc)) h = .ok (.bl (!decide (a ∈ xs))) h := by simp only [vNotIn, in_lst ha hx hd]
theorem vIn_tup {a : α} {xs : List α} {v : Val} {h : HM} (hv : tupL v = some (xs.map enc)) (ha : ok a) (hx : ∀ x ∈ xs, ok x) (hd : Datum.depth α ≤ 50 := by decide) : vIn (enc a) v h = .ok (.bl (decide (a ∈ xs))) h := by simp only [vIn, in_tup hv ha hx hd]
def srt (xs : List α) : List α := xs.mergeSort fun a b => !DatumOrd.lt b a
theorem sortV_enc (xs : List α) : sortV (xs.map enc) (xs.map Datum.toD) = (srt xs).map enc := by
  unfold sortV srt
  have e : (xs.map enc).zip (xs.map (Datum.toD : α → PyData)) = xs.map fun x => (enc x, Datum.toD x) := by
    induction xs with
    | nil => rfl
    | cons x xs ih => simp [ih]
  rw [e, ← List.map_mergeSort (r := fun a b : α => !DatumOrd.lt b a) (f := fun x : α => (enc x, Datum.toD x)) (fun a _ b _ => ?_), List.map_map]
  · rfl
  · show (!DatumOrd.lt b a) = !dataLt (Datum.toD b) (Datum.toD a)
    rw [DatumOrd.lt_eq]
theorem canSort {xs : List α} (hs : Sortable (xs.map (Datum.toD : α → PyData))) (hl : xs.length ≤ 1000000) (hd : Datum.depth α ≤ 50) : CanSort (xs.map (Datum.toD : α → PyData)) := by
  refine ⟨?_, hs, by rw [sizeLine_eq]; simp; omega, ?_⟩
  · intro d hd d' hd'
    obtain ⟨x, _, rfl⟩ := List.mem_map.mp hd
    obtain ⟨y, _, rfl⟩ := List.mem_map.mp hd'
    exact DatumOrd.alike x y
  · intro d hm
    obtain ⟨x, _, rfl⟩ := List.mem_map.mp hm
    have := Datum.depth_le x
    omega
theorem sorted_lst {xs : List α} {h : HM} (hs : Sortable (xs.map (Datum.toD : α → PyData))) (hl : xs.length ≤ 1000000) (hd : Datum.depth α ≤ 50 := by decide) : bSorted [.lst (xs.map enc)] h = .ok (.lst ((srt xs).map enc)) h := by
  simp only [bSorted, sortItems, datFs_map, if_pos (canSort hs hl hd), sortV_enc]
theorem sortable_pair (xs : List (α × β)) : Sortable (xs.map (Datum.toD : α × β → PyData)) := .inl fun d hd => by
  obtain ⟨x, _, rfl⟩ := List.mem_map.mp hd
  exact ⟨_, _, rfl⟩
theorem sortable_int (xs : List Int) : Sortable (xs.map (Datum.toD : Int → PyData)) := .inr fun d hd => by
  obtain ⟨x, _, rfl⟩ := List.mem_map.mp hd
  exact ⟨(by intro e; cases e), fun ys e => (by cases e)⟩
theorem srt_mem {xs : List α} {x : α} : x ∈ srt xs ↔ x ∈ xs := by unfold srt; exact List.mem_mergeSort
theorem srt_perm (xs : List α) : (srt xs).Perm xs := List.mergeSort_perm _ _
theorem srt_len (xs : List α) : (srt xs).length = xs.length := by unfold srt; simp
end
end MM
namespace MM
open PySem L2 PySem.W
/-- a total order -/
class EncO (α : Type) [DecidableEq α] extends Enc α where
  tri : ∀ a b : α, DatumOrd.lt a b = false → DatumOrd.lt b a = false → a = b
  asym : ∀ a b : α, DatumOrd.lt a b = true → DatumOrd.lt b a = false
  tran : ∀ a b c : α, DatumOrd.lt b a = false → DatumOrd.lt c b = false → DatumOrd.lt c a = false
open EncO
instance : EncO Int where
  tri a b h g := by
    simp only [DatumOrd.lt, decide_eq_false_iff_not] at h g; omega
  asym a b h := by
    simp only [DatumOrd.lt, decide_eq_true_eq, decide_eq_false_iff_not] at h ⊢; omega
  tran a b c h g := by
    simp only [DatumOrd.lt, decide_eq_false_iff_not] at h g ⊢; omega
instance : EncO Str where
  tri a b h g := by
    simp only [DatumOrd.lt, decide_eq_false_iff_not] at h g
    have := List.le_antisymm (List.not_lt.mp g) (List.not_lt.mp h)
    rw [sg_of a, sg_of b, this]
  asym a b h := by
    simp only [DatumOrd.lt, decide_eq_true_eq, decide_eq_false_iff_not] at h ⊢
    exact List.lt_asymm h
  tran a b c h g := by
    simp only [DatumOrd.lt, decide_eq_false_iff_not] at h g ⊢
    exact List.not_lt.mpr (List.le_trans (List.not_lt.mp h) (List.not_lt.mp g))
section
variable {α β : Type} [DecidableEq α] [EncO α] [DecidableEq β] [EncO β]
theorem lt_pair (a b : α × β) : DatumOrd.lt a b = if a.1 = b.1 then DatumOrd.lt a.2 b.2 else DatumOrd.lt a.1 b.1 := rfl
instance : EncO (α × β) where
  tri a b h g := by
    rw [lt_pair] at h g
    by_cases e : a.1 = b.1
    · rw [if_pos e] at h; rw [if_pos e.symm] at g
      exact Prod.ext e (tri _ _ h g)
    · rw [if_neg e] at h; rw [if_neg fun x => e x.symm] at g
      exact absurd (tri _ _ h g) e
  asym a b h := by
    rw [lt_pair] at h ⊢
    by_cases e : a.1 = b.1
    · rw [if_pos e] at h; rw [if_pos e.symm]; exact asym _ _ h
    · rw [if_neg e] at h; rw [if_neg fun x => e x.symm]; exact asym _ _ h
  tran a b c h g := by
    rw [lt_pair] at h g ⊢
    by_cases e1 : a.1 = b.1
    · rw [if_pos e1.symm] at h
      by_cases e2 : b.1 = c.1
      · rw [if_pos e2.symm] at g
        rw [if_pos (e1.trans e2).symm]
        exact tran _ _ _ h g
      · rw [if_neg fun x => e2 x.symm] at g
        rw [if_neg fun x => e2 (e1.symm.trans x.symm), e1]
        exact g
    · rw [if_neg fun x => e1 x.symm] at h
      by_cases e2 : b.1 = c.1
      · rw [if_neg fun x => e1 (x.symm.trans e2.symm), ← e2]
        exact h
      · rw [if_neg fun x => e2 x.symm] at g
        by_cases e3 : c.1 = a.1
        · rw [e3] at g
          exact absurd (tri _ _ g h) e1
        · rw [if_neg e3]; exact tran _ _ _ h g
theorem srt_pw (xs : List α) : List.Pairwise (fun a b => DatumOrd.lt b a = false) (srt xs) := by
  have := List.pairwise_mergeSort (le := fun a b : α => !DatumOrd.lt b a) (fun a b c h g => by
    simp only [Bool.not_eq_true'] at h g ⊢
    exact tran a b c h g) (fun a b => by
    cases e : DatumOrd.lt b a with
    | false => rfl
    | true => rw [asym b a e]; rfl) xs
  unfold srt
  exact this.imp fun h => by simpa using h
theorem srt_eq {xs ys : List α} (hx : xs.Nodup) (hy : ys.Nodup) (h : ∀ a, a ∈ xs ↔ a ∈ ys) : srt xs = srt ys := by
  have p : (srt xs).Perm (srt ys) := (srt_perm xs).trans (((List.perm_ext_iff_of_nodup hx hy).mpr h).trans (srt_perm ys).symm)
  exact List.Perm.eq_of_pairwise (le := fun a b => DatumOrd.lt b a = false) (fun a b _ _ h g => tri a b g h) (srt_pw xs) (srt_pw ys) p
theorem srt_nd {xs : List α} (h : xs.Nodup) : (srt xs).Nodup := (srt_perm xs).nodup_iff.mpr h
theorem srt_srt (xs : List α) : srt (srt xs) = srt xs :=
  List.Perm.eq_of_pairwise (le := fun a b => DatumOrd.lt b a = false) (fun a b _ _ h g => tri a b g h) (srt_pw _) (srt_pw _) (srt_perm _)
/-- sorted -/
def Sd (xs : List α) : Prop := srt xs = xs
theorem sd_of_pw {xs : List α} (h : List.Pairwise (fun a b => DatumOrd.lt a b = true) xs) : Sd xs :=
  List.Perm.eq_of_pairwise (le := fun a b => DatumOrd.lt b a = false) (fun a b _ _ h g => tri a b g h) (srt_pw _) (h.imp fun e => asym _ _ e) (srt_perm _)
theorem sd_eq {xs ys : List α} (sx : Sd xs) (sy : Sd ys) (hx : xs.Nodup) (hy : ys.Nodup) (h : ∀ a, a ∈ xs ↔ a ∈ ys) : xs = ys := by
  have := srt_eq hx hy h
  rwa [sx, sy] at this
end
def putI (ks : List Mk) (m : Mk) : List Mk := if (ks.any fun k => decide (k.1 = m.1)) = true then ks.map (fun k => if k.1 = m.1 then (k.1, m.2) else k) else ks ++ [m]
theorem put_kvI {ks : List Mk} {j c : Int} : putV (kvI ks) (.inl j) (.int c) = kvI (putI ks (j, c)) := by
  have inl : ∀ a b : Int, decide ((Sum.inl a : Key) = .inl b) = decide (a = b) := fun a b => by
    by_cases h : a = b
    · simp [h]
    · have : ¬ ((Sum.inl a : Key) = .inl b) := fun e => h (Sum.inl.inj e)
      simp [h, this]
  have inl2 : ∀ a b : Int, ((Sum.inl a : Key) = .inl b) ↔ a = b := fun a b => ⟨fun e => Sum.inl.inj e, fun e => e ▸ rfl⟩
  have ea : ((kvI ks).any fun kv => decide (kv.1 = Sum.inl j)) = ks.any fun k => decide (k.1 = j) := by
    simp only [kvI, List.any_map, Function.comp_def, inl]
  unfold putV putI
  rw [ea]
  split
  · simp only [kvI, List.map_map]
    refine List.map_congr_left fun m hm => ?_
    simp only [Function.comp_def, inl2]
    by_cases h : m.1 = j <;> simp [h]
  · simp [kvI]
theorem putI_keys {ks : List Mk} {m : Mk} (nd : (ks.map (·.1)).Nodup) : ((putI ks m).map (·.1)).Nodup := by
  unfold putI
  split
  · have : (ks.map fun k => if k.1 = m.1 then (k.1, m.2) else k).map (·.1) = ks.map (·.1) := by
      rw [List.map_map]
      refine List.map_congr_left fun k hk => ?_
      simp only [Function.comp]
      split <;> rfl
    rw [this]; exact nd
  · rename_i h
    rw [List.map_append, List.nodup_append]
    refine ⟨nd, by simp, fun a ha b hb => ?_⟩
    simp at hb
    subst hb
    simp only [List.mem_map] at ha
    obtain ⟨k, hk, rfl⟩ := ha
    intro e
    apply h
    rw [List.any_eq_true]
    exact ⟨k, hk, by simp [e]⟩
theorem look_of {ks : List Mk} (nd : (ks.map (·.1)).Nodup) {j c : Int} (h : (j, c) ∈ ks) : look ks j = some c := look_some nd h
theorem putI_look {ks : List Mk} {m : Mk} (nd : (ks.map (·.1)).Nodup) {j : Int} : look (putI ks m) j = if j = m.1 then some m.2 else look ks j := by
  have nd2 := putI_keys (m := m) nd
  by_cases h : j = m.1
  · rw [if_pos h]
    subst h
    refine look_of nd2 ?_
    unfold putI
    split
    · rename_i h
      rw [List.any_eq_true] at h
      obtain ⟨k, hk, e⟩ := h
      exact List.mem_map.mpr ⟨k, hk, by simp at e; simp [e]⟩
    · simp
  · rw [if_neg h]
    cases e : look ks j with
    | some c =>
      refine look_of nd2 ?_
      have := look_mem e
      unfold putI
      split
      · exact List.mem_map.mpr ⟨_, this, by simp [h]⟩
      · simp [this]
    | none =>
      have hn := look_none e
      cases e2 : look (putI ks m) j with
      | none => rfl
      | some c =>
        have := look_mem e2
        unfold putI at this
        split at this
        · obtain ⟨k, hk, ek⟩ := List.mem_map.mp this
          exfalso
          by_cases hk2 : k.1 = m.1
          · rw [if_pos hk2] at ek
            exact h (by rw [← hk2]; exact (congrArg Prod.fst ek).symm)
          · rw [if_neg hk2] at ek
            exact hn k hk (by rw [ek])
        · exfalso
          rcases List.mem_append.mp this with hm | hm
          · exact hn _ hm rfl
          · simp at hm
            exact h (by rw [← hm])
theorem putI_len {ks : List Mk} {m : Mk} : (putI ks m).length ≤ ks.length + 1 := by
  unfold putI; split <;> simp
def upd1 (acc : List Mk) (m : Mk) : List Mk := putI acc (m.1, max m.2 ((look acc m.1).getD 0))
def joinK (a b : List Mk) : List Mk := b.foldl upd1 a
theorem joinK_keys {a : List Mk} (nd : (a.map (·.1)).Nodup) : ∀ {b : List Mk}, ((joinK a b).map (·.1)).Nodup := by
  intro b
  induction b generalizing a with
  | nil => exact nd
  | cons m b ih => exact ih (putI_keys nd)
theorem joinK_len {b : List Mk} : ∀ {a : List Mk}, (joinK a b).length ≤ a.length + b.length := by
  induction b with
  | nil => intro a; exact Nat.le_refl _
  | cons m b ih =>
    intro a
    have h1 := ih (a := upd1 a m)
    have h2 : (upd1 a m).length ≤ a.length + 1 := putI_len
    show (joinK (upd1 a m) b).length ≤ _
    simp only [List.length_cons]; omega
theorem upd1_within {a : List Mk} (nd : (a.map (·.1)).Nodup) {m p : Mk} (hm : 0 < m.2) : within p (upd1 a m) = (within p a || within p [m]) := by
  have nd2 : ((upd1 a m).map (·.1)).Nodup := putI_keys nd
  rw [show p = (p.1, p.2) from rfl, within_look nd2, within_look nd]
  unfold upd1
  rw [putI_look nd]
  have e1 : within (p.1, p.2) [m] = (decide (m.1 = p.1) && decide (p.2 ≤ m.2)) := by simp [within]
  rw [e1]
  by_cases h : p.1 = m.1
  · rw [if_pos h, h]
    cases look a m.1 with
    | none =>
      simp
      by_cases q : p.2 ≤ m.2 <;> simp [q] <;> omega
    | some d =>
      simp
      by_cases q : p.2 ≤ m.2 <;> by_cases q2 : p.2 ≤ d <;> simp [q, q2] <;> omega
  · have h' : ¬ m.1 = p.1 := fun e => h e.symm
    rw [if_neg h]
    simp [h']
theorem within_cons {p m : Mk} {b : List Mk} : within p (m :: b) = (within p [m] || within p b) := by simp [within]
theorem joinK_within {b : List Mk} (hb : ∀ m ∈ b, 0 < m.2) {p : Mk} : ∀ {a : List Mk}, (a.map (·.1)).Nodup → within p (joinK a b) = (within p a || within p b) := by
  induction b with
  | nil => intro a nd; simp [joinK, within]
  | cons m b ih =>
    intro a nd
    show within p (joinK (upd1 a m) b) = _
    rw [ih (fun k hk => hb k (List.mem_cons_of_mem _ hk)) (a := upd1 a m) (putI_keys nd), upd1_within nd (hb m List.mem_cons_self), within_cons (m := m) (b := b), Bool.or_assoc]
theorem joinK_pos {b : List Mk} (hb : ∀ m ∈ b, 0 < m.2) : ∀ {a : List Mk}, (∀ m ∈ a, 0 < m.2) → ∀ m ∈ joinK a b, 0 < m.2 := by
  induction b with
  | nil => intro a ha; exact ha
  | cons m b ih =>
    intro a ha
    refine ih (fun k hk => hb k (List.mem_cons_of_mem _ hk)) (a := upd1 a m) ?_
    have := hb m List.mem_cons_self
    have hmax : 0 < max m.2 ((look a m.1).getD 0) := by omega
    intro k hk
    unfold upd1 putI at hk
    split at hk
    · obtain ⟨q, hq, e⟩ := List.mem_map.mp hk
      by_cases h : q.1 = m.1
      · rw [if_pos h] at e; subst e; exact hmax
      · rw [if_neg h] at e; subst e; exact ha q hq
    · rcases List.mem_append.mp hk with hk | hk
      · exact ha k hk
      · simp at hk; subst hk; exact hmax
theorem within_srt {p : Mk} {ks : List Mk} : within p (srt ks) = within p ks := by
  rw [Bool.eq_iff_iff, within, within, List.any_eq_true, List.any_eq_true]
  simp only [srt_mem]
theorem keys_srt {ks : List Mk} (nd : (ks.map (·.1)).Nodup) : ((srt ks).map (·.1)).Nodup := ((srt_perm ks).map _).nodup_iff.mpr nd
theorem nd_of_keys {ks : List Mk} (nd : (ks.map (·.1)).Nodup) : ks.Nodup := (List.pairwise_map.mp nd).imp fun h e => h (congrArg Prod.fst e)
theorem mem_within {ks : List Mk} (nd : (ks.map (·.1)).Nodup) {m : Mk} : m ∈ ks ↔ within m ks = true ∧ within (m.1, m.2 + 1) ks = false := by
  rw [show m = (m.1, m.2) from rfl, within_look nd, within_look nd]
  constructor
  · intro h; rw [look_of nd h]; simp; omega
  · rintro ⟨h1, h2⟩
    cases e : look ks m.1 with
    | none => rw [e] at h1; cases h1
    | some d =>
      rw [e] at h1 h2
      simp at h1 h2
      have : d = m.2 := by omega
      subst this
      exact look_mem e
/-- known things are told by what is within -/
theorem known_eq {ks js : List Mk} (n1 : (ks.map (·.1)).Nodup) (n2 : (js.map (·.1)).Nodup) (s1 : Sd ks) (s2 : Sd js) (h : ∀ p, within p ks = within p js) : ks = js :=
  sd_eq s1 s2 (nd_of_keys n1) (nd_of_keys n2) fun m => by rw [mem_within n1, mem_within n2, h, h]
end MM
namespace MM
open PySem L2 PySem.W
noncomputable section
def m_known_together_f0 : SM := sSub (eVar 2) (eVar 3) (eBi bMax (aCons (eVar 4) (aCons (eGet2 (eVar 2) (eVar 3) (eC (.int 0))) (aNil))))
def m_known_together : FM := mF 5 (sSeq (sAsg (eBi bDictK (aCons (eLc (iVal (eVar 0)) (gTp 2 (gsCons (gNm 3) (gsCons (gNm 4) (gsNil)))) (tYesM) (eDisp mkTup (aCons (eVar 3) (aCons (eVar 4) (aNil)))) [3, 4] frozen) (aNil))) (gNm 2))
  (sSeq (sFor (iVal (eVar 1)) (gTp 2 (gsCons (gNm 3) (gsCons (gNm 4) (gsNil)))) m_known_together_f0)
  (sRet (eBi bTuple (aCons (eBi bSorted (aCons (eLock (eVar 2) (eLc (iKeysA (eVar 2)) (gNm 3) (tYesM) (eDisp mkTup (aCons (eVar 3) (aCons (e2 vIx (eVar 2) (eVar 3)) (aNil)))) [3] frozen)) (aNil))) (aNil))))))
def m_kept_of : FM := mF 4 (sRet (eLc (iVal (eVar 0)) (gNm 3) (tOrM (tOf (e2 vIn (eVar 3) (eVar 1))) (tNotM (tTru (eCall m_is_within (aCons (e2 vIx (eVar 3) (eC (.int 0))) (aCons (eVar 2) (aNil))))))) (eVar 3) [3] frozen))
theorem intsV_at {n i : Nat} {lo : Int} {x : Val} (h : (intsV lo n)[i]? = some x) : i < n ∧ x = .int (lo + (i : Nat)) := by
  simp only [intsV] at h
  by_cases hi : i < n
  · simp [hi] at h; exact ⟨hi, h.symm⟩
  · simp [hi] at h
theorem look_at' {ks : List Mk} (nd : (ks.map (·.1)).Nodup) {m : Mk} (hm : m ∈ ks) : getK (kvI ks) (.inl m.1) = some (.int m.2) := by rw [getK_kvI, look_some nd hm]; rfl
theorem maxI {i j : Int} {h : HM} : bMax [.int i, .int j] h = .ok (.int (max i j)) h := by
  show Res.ok (Val.int (if j > i then j else i)) h = _
  congr 2; split <;> omega
theorem joinK_take {a b : List Mk} {i : Nat} {m : Mk} (e : b[i]? = some m) : joinK a (b.take (i + 1)) = upd1 (joinK a (b.take i)) m := by
  unfold joinK
  rw [List.take_add_one, e]
  simp
theorem at_knownT {a b : List Mk} {v w : Val} {h : HM} (hv : tupL v = some (a.map eM)) (hw : tupL w = some (b.map eM)) (nd : (a.map (·.1)).Nodup) (la : a.length ≤ 1000) (lb : b.length ≤ 1000) :
    m_known_together [v, w] h = .ok (.tup ((srt (joinK a b)).map eM)) (h ++ [.dK (kvI (joinK a b))]) := by
  have hp : ∀ h, bDictK [.lst (a.map eM)] h = .ok (.ref (List.length h)) (h ++ [.dK (kvI a)]) := fun h => by simp only [bDictK, pairs_kvI, merge_kvI nd]
  obtain ⟨l', h', e, ⟨a3, a4, e1, e2⟩⟩ := for_inv (xs := b.map eM) (g := gTp 2 (gsCons (gNm 3) (gsCons (gNm 4) (gsNil)))) (b := m_known_together_f0) (l := [some v, some w, some (.ref (List.length h)), none, none]) (h := h ++ [.dK (kvI a)])
    (fun i l h' => ∃ a3 a4, l = [some v, some w, some (.ref (List.length h)), a3, a4] ∧ h' = h ++ [.dK (kvI (joinK a (b.take i)))]) ⟨_, _, rfl, rfl⟩ (by
    rintro i x l h' hx ⟨a3, a4, rfl, rfl⟩
    rw [List.getElem?_map] at hx
    cases em : b[i]? with
    | none => rw [em] at hx; cases hx
    | some m =>
      rw [em] at hx
      cases hx
      rw [joinK_take em]
      have hl : (kvI (joinK a (b.take i))).length < sizeLine := by
        have := joinK_len (a := a) (b := b.take i)
        rw [sizeLine_eq]; simp only [kvI, List.length_map]
        have h2 : (b.take i).length ≤ b.length := by simp; omega
        omega
      generalize joinK a (b.take i) = ks at hl
      refine ⟨[some v, some w, some (.ref (List.length h)), some (.int m.1), some (.int m.2)], [some v, some w, some (.ref (List.length h)), some (.int m.1), some (.int m.2)], _, rfl, ?_, _, _, rfl, rfl⟩
      have g := getK_kvI (ks := ks) (j := m.1)
      have pu : putV (kvI ks) (.inl m.1) (.int (max m.2 ((look ks m.1).getD 0))) = kvI (upd1 ks m) := put_kvI
      have si : ∀ c, setI (.ref (List.length h)) (.int m.1) (.int c) (h ++ [.dK (kvI ks)]) = some (h ++ [.dK (putV (kvI ks) (.inl m.1) (.int c))]) := fun c => by
        simp only [setI, last_get, if_pos hl, keyOf, Option.map_some, last_set]
      unfold m_known_together_f0 sSub
      cases el : look ks m.1 with
      | none =>
        rw [el] at g pu
        simp [isDict, dGet, keyOf, g, maxI]
        simp only [si]
        exact congrArg (fun z => SRes.nx _ (h ++ [.dK z])) pu
      | some d =>
        rw [el] at g pu
        simp [isDict, dGet, keyOf, g, maxI]
        simp only [si]
        exact congrArg (fun z => SRes.nx _ (h ++ [.dK z])) pu)
  have hlen : (b.map eM).length = b.length := by simp
  rw [hlen, List.take_length] at e2
  have ndj := joinK_keys (b := b) nd
  have lj := joinK_len (a := a) (b := b)
  unfold m_known_together mF
  simp [src_tup hv]
  rw [lc_mapM (f := eM) (fun m hm => ⟨_, rfl, by simp [eM, wipeL]⟩) (by rw [sizeLine_eq]; omega)]
  simp [hp, src_tup hw]
  rw [e, e1, e2]
  generalize joinK a b = ks at ndj lj
  simp [lockO, keysSrc, keys_kvI]
  rw [lc_mapM (e := fun m : Mk => .int m.1) (f := eM) (fun m hm => ⟨_, rfl, by simp [eM, wipeL, vIx, dGet, keyOf, look_at' ndj hm]⟩) (by rw [sizeLine_eq]; omega)]
  have so := fun h => sorted_lst (h := h) (xs := ks) (sortable_pair ks) (by omega)
  simp only [show (fun m : Mk => (Enc.enc m : Val)) = eM from rfl] at so
  simp [bTuple, seqL, so]
/-- known together, forgetting how -/
def mksOf : List Val → Option (List Mk)
  | [] => some []
  | x :: xs => match isMk x, mksOf xs with
    | some m, some ms => some (m :: ms)
    | _, _ => none
theorem mksOf_map (ms : List Mk) : mksOf (ms.map eM) = some ms := by
  induction ms with
  | nil => rfl
  | cons m ms ih => simp [mksOf, isMk_eM, ih]
theorem mksOf_eq {xs : List Val} {ms : List Mk} (e : mksOf xs = some ms) : xs = ms.map eM := by
  induction xs generalizing ms with
  | nil => cases e; rfl
  | cons x xs ih =>
    simp only [mksOf] at e
    split at e
    · rename_i m ms' e1 e2
      cases e
      rw [List.map_cons, eM_of e1, ih e2]
    · cases e
def s_known_together : FM := fun xs h => match xs with
  | [v, w] => (match (tupL v).bind mksOf, (tupL w).bind mksOf with
    | some a, some b => if (a.map (·.1)).Nodup ∧ a.length ≤ 1000 ∧ b.length ≤ 1000 then .ok (.tup ((srt (joinK a b)).map eM)) h else .bad
    | _, _ => .bad)
  | _ => .bad
theorem tup_mks {v : Val} {a : List Mk} (e : (tupL v).bind mksOf = some a) : tupL v = some (a.map eM) := by
  cases e1 : tupL v with
  | none => rw [e1] at e; cases e
  | some xs => rw [e1] at e; rw [mksOf_eq (xs := xs) e]
theorem le_known_together (xs : List Val) (h : HM) (_ : xs.length = 2) (w : Wf h) (_ : CloS h.length xs) : Le h (s_known_together xs h) (m_known_together xs h) := by
  unfold s_known_together
  split
  · split
    · rename_i a b e1 e2
      split
      · rename_i hh
        rw [at_knownT (tup_mks e1) (tup_mks e2) hh.1 hh.2.1 hh.2.2]
        exact .pure w (.tup (frz_mks _))
      · exact .bad
    · exact .bad
  · exact .bad
theorem knownT_ok {a b : List Mk} {v w : Val} {h : HM} (hv : tupL v = some (a.map eM)) (hw : tupL w = some (b.map eM)) (nd : (a.map (·.1)).Nodup) (la : a.length ≤ 1000) (lb : b.length ≤ 1000) :
    s_known_together [v, w] h = .ok (.tup ((srt (joinK a b)).map eM)) h := by
  simp [s_known_together, hv, hw, mksOf_map, nd, la, lb]
abbrev Wd := Mk × Str
def eW (p : Wd) : Val := .tup [eM p.1, .str p.2]
theorem encW : (Enc.enc : Wd → Val) = eW := rfl
def okW (xs : List Wd) : Prop := ∀ x ∈ xs, PyData.strOk x.2 = true
theorem okW_ok {xs : List Wd} (h : okW xs) : ∀ x ∈ xs, Enc.ok x := fun x hx => ⟨⟨trivial, trivial⟩, h x hx⟩
def kept (mine yours : List Wd) (ks : List Mk) : List Wd := mine.filter fun p => decide (p ∈ yours) || !within p.1 ks
theorem at_kept {xs ys : List Wd} {ks : List Mk} {v w k : Val} {h : HM} (hv : tupL v = some (xs.map eW)) (hw : tupL w = some (ys.map eW)) (hk : tupL k = some (ks.map eM)) (lx : xs.length ≤ 1000) (lk : ks.length ≤ 1000) (ox : okW xs) (oy : okW ys) :
    m_kept_of [v, w, k] h = .ok (.lst ((kept xs ys ks).map eW)) h := by
  unfold m_kept_of mF
  simp [src_tup hv]
  have hin : ∀ p ∈ xs, ∀ h, vIn (eW p) w h = .ok (.bl (decide (p ∈ ys))) h := fun p hp h => by
    rw [← encW] at hw ⊢
    rw [vIn_tup hw (okW_ok ox p hp) (okW_ok oy)]
    congr 2
    exact Bool.eq_iff_iff.mpr (by simp)
  have ix0 : ∀ (p : Wd) h, vIx (eW p) (.int 0) h = .ok (eM p.1) h := fun p h => rfl
  rw [lc_filterM (fun p => decide (p ∈ ys) || !within p.1 ks) eW (fun p hp => ⟨_, rfl, by
    by_cases q : p ∈ ys <;> simp [wipeL, hin p hp, ix0, at_within hk (by omega : ks.length ≤ 1000000), q], fun _ => by simp [wipeL]⟩) (by rw [sizeLine_eq]; omega)]
  rfl
end
end MM
namespace MM
open PySem L2 PySem.W
noncomputable section
def m_marked_together : FM := mF 6 (sSeq (sAsg (eCall m_kept_of (aCons (eVar 0) (aCons (eVar 2) (aCons (eVar 3) (aNil))))) (gNm 4))
  (sSeq (sAsg (e2 vAdd (eVar 4) (eLc (iVal (eCall m_kept_of (aCons (eVar 2) (aCons (eVar 0) (aCons (eVar 1) (aNil)))))) (gNm 5) (tOf (e2 vNotIn (eVar 5) (eVar 4))) (eVar 5) [5] frozen)) (gNm 4))
  (sRet (eBi bTuple (aCons (eBi bSorted (aCons (eVar 4) (aNil))) (aNil))))))
def m_put_together : FM := mF 4 (sSeq (sAsg (eCall s_known_together (aCons (e2 vIx (eVar 0) (eC (.int 2))) (aCons (e2 vIx (eVar 1) (eC (.int 2))) (aNil)))) (gNm 2))
  (sSeq (sAsg (eCall m_marked_together (aCons (e2 vIx (eVar 0) (eC (.int 3))) (aCons (e2 vIx (eVar 0) (eC (.int 2))) (aCons (e2 vIx (eVar 1) (eC (.int 3))) (aCons (e2 vIx (eVar 1) (eC (.int 2))) (aNil)))))) (gNm 3))
  (sRet (eDisp mkTup (aCons (e2 vIx (eVar 0) (eC (.int 0))) (aCons (e2 vIx (eVar 0) (eC (.int 1))) (aCons (eVar 2) (aCons (eVar 3) (aCons (eCall m_marked_together (aCons (e2 vIx (eVar 0) (eC (.int 4))) (aCons (e2 vIx (eVar 0) (eC (.int 2))) (aCons (e2 vIx (eVar 1) (eC (.int 4))) (aCons (e2 vIx (eVar 1) (eC (.int 2))) (aNil)))))) (aNil))))))))))
def joinW (x : List Wd) (kx : List Mk) (y : List Wd) (ky : List Mk) : List Wd := kept x y ky ++ (kept y x kx).filter fun p => decide (p ∉ kept x y ky)
theorem mem_joinW {x y : List Wd} {kx ky : List Mk} {p : Wd} : p ∈ joinW x kx y ky ↔ (p ∈ x ∧ (p ∈ y ∨ within p.1 ky = false)) ∨ (p ∈ y ∧ (p ∈ x ∨ within p.1 kx = false)) := by
  have e1 : p ∈ kept x y ky ↔ p ∈ x ∧ (p ∈ y ∨ within p.1 ky = false) := by simp [kept]
  have e2 : p ∈ kept y x kx ↔ p ∈ y ∧ (p ∈ x ∨ within p.1 kx = false) := by simp [kept]
  unfold joinW
  rw [List.mem_append, List.mem_filter, decide_eq_true_eq, e2, e1]
  constructor
  · rintro (h | h)
    · exact .inl h
    · exact .inr h.1
  · rintro (h | h)
    · exact .inl h
    · by_cases q : p ∈ x ∧ (p ∈ y ∨ within p.1 ky = false)
      · exact .inl q
      · exact .inr ⟨h, q⟩
theorem kept_len {x y : List Wd} {k : List Mk} : (kept x y k).length ≤ x.length := List.length_filter_le _ _
theorem joinW_len {x y : List Wd} {kx ky : List Mk} : (joinW x kx y ky).length ≤ x.length + y.length := by
  unfold joinW
  have h1 := kept_len (x := x) (y := y) (k := ky)
  have h2 := kept_len (x := y) (y := x) (k := kx)
  have h3 := List.length_filter_le (fun p => decide (p ∉ kept x y ky)) (kept y x kx)
  rw [List.length_append]; omega
theorem joinW_nd {x y : List Wd} {kx ky : List Mk} (hx : x.Nodup) (hy : y.Nodup) : (joinW x kx y ky).Nodup := by
  unfold joinW
  rw [List.nodup_append]
  refine ⟨hx.filter _, (hy.filter _).filter _, fun a ha b hb => ?_⟩
  rw [List.mem_filter, decide_eq_true_eq] at hb
  rintro rfl
  exact hb.2 ha
theorem okW_sub {xs ys : List Wd} (h : okW xs) (hs : ∀ p ∈ ys, p ∈ xs) : okW ys := fun p hp => h p (hs p hp)
theorem okW_srt {xs : List Wd} (h : okW xs) : okW (srt xs) := okW_sub h fun p hp => srt_mem.mp hp
theorem joinW_ok {x y : List Wd} {kx ky : List Mk} (hx : okW x) (hy : okW y) : okW (joinW x kx y ky) := fun p hp => by
  rcases mem_joinW.mp hp with h | h
  · exact hx p h.1
  · exact hy p h.1
theorem at_markedT {x y : List Wd} {kx ky : List Mk} {v w a b : Val} {h : HM} (hv : tupL v = some (x.map eW)) (ha : tupL a = some (kx.map eM)) (hw : tupL w = some (y.map eW)) (hb : tupL b = some (ky.map eM)) (lx : x.length ≤ 1000) (ly : y.length ≤ 1000) (lkx : kx.length ≤ 1000) (lky : ky.length ≤ 1000) (ox : okW x) (oy : okW y) :
    m_marked_together [v, a, w, b] h = .ok (.tup ((srt (joinW x kx y ky)).map eW)) h := by
  have h1 := kept_len (x := x) (y := y) (k := ky)
  have h2 := kept_len (x := y) (y := x) (k := kx)
  have o1 : okW (kept x y ky) := okW_sub ox fun p hp => (List.mem_filter.mp hp).1
  have o2 : okW (kept y x kx) := okW_sub oy fun p hp => (List.mem_filter.mp hp).1
  have hni : ∀ p ∈ kept y x kx, ∀ h, vNotIn (eW p) (.lst ((kept x y ky).map eW)) h = .ok (.bl (decide (p ∉ kept x y ky))) h := fun p hp h => by
    rw [← encW]
    rw [vNotIn_lst (okW_ok o2 p hp) (okW_ok o1)]
    congr 2
    exact Bool.eq_iff_iff.mpr (by simp)
  have so := fun h => sorted_lst (h := h) (xs := joinW x kx y ky) (sortable_pair _) (by have := joinW_len (x := x) (y := y) (kx := kx) (ky := ky); omega)
  rw [encW] at so
  have ad : ∀ h, vAdd (.lst ((kept x y ky).map eW)) (.lst (((kept y x kx).filter fun p => decide (p ∉ kept x y ky)).map eW)) h = .ok (.lst ((joinW x kx y ky).map eW)) h := fun h => by
    have h3 := List.length_filter_le (fun p => decide (p ∉ kept x y ky)) (kept y x kx)
    show (if _ then _ else _) = _
    rw [if_pos (by rw [sizeLine_eq]; simp only [List.length_map]; omega), ← List.map_append]
    rfl
  unfold m_marked_together mF
  simp [at_kept hv hw hb lx lky ox oy, at_kept hw hv ha ly lkx oy ox, srcOf]
  rw [lc_filterM (fun p => decide (p ∉ kept x y ky)) eW (fun p hp => ⟨_, rfl, by simp [wipeL, hni p hp], fun _ => by simp [wipeL]⟩) (by rw [sizeLine_eq]; omega)]
  simp only [Res.bind_ok, ev_frozen, ad]
  simp [so, bTuple, seqL]
structure Fl where
  id : Mk
  first : Str
  known : List Mk
  names : List Wd
  texts : List Wd
def eFk (f : Fl) (k : Val) : Val := .tup [eM f.id, .str f.first, k, .tup (f.names.map eW), .tup (f.texts.map eW)]
def eT (f : Fl) : Val := eFk f (.tup (f.known.map eM))
/-- marked things as a file has them -/
structure Wfw (n : Nat) (ks : List Mk) (xs : List Wd) : Prop where
  nd : xs.Nodup
  sd : Sd xs
  ok : okW xs
  wi : ∀ p ∈ xs, within p.1 ks = true
  len : xs.length ≤ n
structure Wff (w : Mk) (x : Str) (n : Nat) (f : Fl) : Prop where
  id : f.id = w
  first : f.first = x
  nd : (f.known.map (·.1)).Nodup
  pos : ∀ m ∈ f.known, 0 < m.2
  sd : Sd f.known
  len : f.known.length ≤ n
  names : Wfw n f.known f.names
  texts : Wfw n f.known f.texts
def joinF (a b : Fl) : Fl := ⟨a.id, a.first, srt (joinK a.known b.known), srt (joinW a.names a.known b.names b.known), srt (joinW a.texts a.known b.texts b.known)⟩
theorem within_joinK {a b : List Mk} (nd : (a.map (·.1)).Nodup) (hb : ∀ m ∈ b, 0 < m.2) {p : Mk} : within p (srt (joinK a b)) = (within p a || within p b) := by rw [within_srt, joinK_within hb nd]
theorem Wfw.join {n m : Nat} {a b : List Mk} {x y : List Wd} (nd : (a.map (·.1)).Nodup) (hb : ∀ m ∈ b, 0 < m.2) (hx : Wfw n a x) (hy : Wfw m b y) : Wfw (n + m) (srt (joinK a b)) (srt (joinW x a y b)) := by
  refine ⟨srt_nd (joinW_nd hx.nd hy.nd), srt_srt _, okW_srt (joinW_ok hx.ok hy.ok), fun p hp => ?_, ?_⟩
  · rw [within_joinK nd hb]
    rcases mem_joinW.mp (srt_mem.mp hp) with h | h
    · rw [hx.wi p h.1]; rfl
    · rw [hy.wi p h.1]; simp
  · rw [srt_len]
    have := joinW_len (x := x) (y := y) (kx := a) (ky := b)
    have := hx.len; have := hy.len
    omega
theorem Wff.join {w : Mk} {x : Str} {n m : Nat} {a b : Fl} (ha : Wff w x n a) (hb : Wff w x m b) : Wff w x (n + m) (joinF a b) := by
  refine ⟨ha.id, ha.first, keys_srt (joinK_keys ha.nd), fun k hk => joinK_pos hb.pos ha.pos k (srt_mem.mp hk), srt_srt _, ?_, Wfw.join ha.nd hb.pos ha.names hb.names, Wfw.join ha.nd hb.pos ha.texts hb.texts⟩
  show (srt _).length ≤ _
  rw [srt_len]
  have := joinK_len (a := a.known) (b := b.known)
  have := ha.len; have := hb.len
  omega
theorem at_putT {w : Mk} {x : Str} {n m : Nat} {a b : Fl} {k j : Val} {h : HM} (ha : Wff w x n a) (hb : Wff w x m b) (hn : n ≤ 1000) (hm : m ≤ 1000) (hk : tupL k = some (a.known.map eM)) (hj : tupL j = some (b.known.map eM)) :
    m_put_together [eFk a k, eFk b j] h = .ok (eT (joinF a b)) h := by
  have l1 := ha.len; have l2 := hb.len; have l3 := ha.names.len; have l4 := hb.names.len; have l5 := ha.texts.len; have l6 := hb.texts.len
  have x0 : ∀ (f : Fl) (k : Val) h, vIx (eFk f k) (.int 0) h = .ok (eM f.id) h := fun _ _ _ => rfl
  have x1 : ∀ (f : Fl) (k : Val) h, vIx (eFk f k) (.int 1) h = .ok (.str f.first) h := fun _ _ _ => rfl
  have x2 : ∀ (f : Fl) (k : Val) h, vIx (eFk f k) (.int 2) h = .ok k h := fun _ _ _ => rfl
  have x3 : ∀ (f : Fl) (k : Val) h, vIx (eFk f k) (.int 3) h = .ok (.tup (f.names.map eW)) h := fun _ _ _ => rfl
  have x4 : ∀ (f : Fl) (k : Val) h, vIx (eFk f k) (.int 4) h = .ok (.tup (f.texts.map eW)) h := fun _ _ _ => rfl
  unfold m_put_together mF
  simp [x0, x1, x2, x3, x4, knownT_ok hk hj ha.nd (by omega) (by omega), at_markedT (v := .tup (a.names.map eW)) (w := .tup (b.names.map eW)) rfl hk rfl hj (by omega) (by omega) (by omega) (by omega) ha.names.ok hb.names.ok,
    at_markedT (v := .tup (a.texts.map eW)) (w := .tup (b.texts.map eW)) rfl hk rfl hj (by omega) (by omega) (by omega) (by omega) ha.texts.ok hb.texts.ok]
  rfl
structure IsW (S : List Fl) (g : Fl → List Wd) (xs : List Wd) : Prop where
  mem : ∀ p, p ∈ xs ↔ (∃ f ∈ S, p ∈ g f) ∧ ∀ f ∈ S, p ∈ g f ∨ within p.1 f.known = false
structure IsJ (S : List Fl) (F : Fl) : Prop where
  known : ∀ p, within p F.known = true ↔ ∃ f ∈ S, within p f.known = true
  names : IsW S (·.names) F.names
  texts : IsW S (·.texts) F.texts
theorem IsW.join {S T : List Fl} {F G : Fl} {g : Fl → List Wd} {xs ys : List Wd} (hF : ∀ p, within p F.known = true ↔ ∃ f ∈ S, within p f.known = true) (hG : ∀ p, within p G.known = true ↔ ∃ f ∈ T, within p f.known = true)
    (wS : ∀ f ∈ S, ∀ p ∈ g f, within p.1 f.known = true) (wT : ∀ f ∈ T, ∀ p ∈ g f, within p.1 f.known = true) (hx : IsW S g xs) (hy : IsW T g ys) : IsW (S ++ T) g (srt (joinW xs F.known ys G.known)) := by
  refine ⟨fun p => ?_⟩
  have hFp := hF p.1
  have hGp := hG p.1
  rw [srt_mem, mem_joinW, hx.mem, hy.mem]
  have eF : within p.1 F.known = false ↔ ∀ f ∈ S, within p.1 f.known = false := by
    rw [← Bool.not_eq_true, hFp]
    simp
  have eG : within p.1 G.known = false ↔ ∀ f ∈ T, within p.1 f.known = false := by
    rw [← Bool.not_eq_true, hGp]
    simp
  rw [eF, eG]
  constructor
  · rintro (⟨⟨⟨f, hf, pf⟩, b1⟩, h | h⟩ | ⟨⟨⟨f, hf, pf⟩, b1⟩, h | h⟩)
    · exact ⟨⟨f, List.mem_append_left _ hf, pf⟩, fun k hk => (List.mem_append.mp hk).elim (b1 k) (h.2 k)⟩
    · exact ⟨⟨f, List.mem_append_left _ hf, pf⟩, fun k hk => (List.mem_append.mp hk).elim (b1 k) fun q => .inr (h k q)⟩
    · exact ⟨⟨f, List.mem_append_right _ hf, pf⟩, fun k hk => (List.mem_append.mp hk).elim (h.2 k) (b1 k)⟩
    · exact ⟨⟨f, List.mem_append_right _ hf, pf⟩, fun k hk => (List.mem_append.mp hk).elim (fun q => .inr (h k q)) (b1 k)⟩
  · rintro ⟨⟨f, hf, pf⟩, b⟩
    have bS : ∀ k ∈ S, p ∈ g k ∨ within p.1 k.known = false := fun k hk => b k (List.mem_append_left _ hk)
    have bT : ∀ k ∈ T, p ∈ g k ∨ within p.1 k.known = false := fun k hk => b k (List.mem_append_right _ hk)
    rcases List.mem_append.mp hf with hf | hf
    · refine .inl ⟨⟨⟨f, hf, pf⟩, bS⟩, ?_⟩
      by_cases q : ∃ k ∈ T, p ∈ g k
      · exact .inl ⟨q, bT⟩
      · exact .inr fun k hk => (bT k hk).resolve_left fun z => q ⟨k, hk, z⟩
    · refine .inr ⟨⟨⟨f, hf, pf⟩, bT⟩, ?_⟩
      by_cases q : ∃ k ∈ S, p ∈ g k
      · exact .inl ⟨q, bS⟩
      · exact .inr fun k hk => (bS k hk).resolve_left fun z => q ⟨k, hk, z⟩
/-- a file, and what files it came from -/
structure Led (w : Mk) (x : Str) (n : Nat) (S : List Fl) (F : Fl) : Prop where
  wf : Wff w x n F
  all : ∀ f ∈ S, ∃ m, Wff w x m f
  isJ : IsJ S F
theorem Led.join {w : Mk} {x : Str} {n m : Nat} {S T : List Fl} {F G : Fl} (hF : Led w x n S F) (hG : Led w x m T G) : Led w x (n + m) (S ++ T) (joinF F G) := by
  refine ⟨hF.wf.join hG.wf, fun f hf => (List.mem_append.mp hf).elim (hF.all f) (hG.all f), ⟨fun p => ?_, ?_, ?_⟩⟩
  · show within p (srt (joinK F.known G.known)) = true ↔ _
    rw [within_joinK hF.wf.nd hG.wf.pos, Bool.or_eq_true, hF.isJ.known, hG.isJ.known]
    constructor
    · rintro (⟨f, h1, h2⟩ | ⟨f, h1, h2⟩)
      · exact ⟨f, List.mem_append_left _ h1, h2⟩
      · exact ⟨f, List.mem_append_right _ h1, h2⟩
    · rintro ⟨f, h1, h2⟩
      exact (List.mem_append.mp h1).elim (fun q => .inl ⟨f, q, h2⟩) fun q => .inr ⟨f, q, h2⟩
  · exact IsW.join hF.isJ.known hG.isJ.known (fun f hf p hp => by obtain ⟨k, q⟩ := hF.all f hf; exact q.names.wi p hp) (fun f hf p hp => by obtain ⟨k, q⟩ := hG.all f hf; exact q.names.wi p hp) hF.isJ.names hG.isJ.names
  · exact IsW.join hF.isJ.known hG.isJ.known (fun f hf p hp => by obtain ⟨k, q⟩ := hF.all f hf; exact q.texts.wi p hp) (fun f hf p hp => by obtain ⟨k, q⟩ := hG.all f hf; exact q.texts.wi p hp) hF.isJ.texts hG.isJ.texts
theorem IsW.same {S T : List Fl} {g : Fl → List Wd} {xs ys : List Wd} (h : ∀ f, f ∈ S ↔ f ∈ T) (hx : IsW S g xs) (hy : IsW T g ys) (p : Wd) : p ∈ xs ↔ p ∈ ys := by
  rw [hx.mem, hy.mem]
  simp only [h]
theorem Led.same {w : Mk} {x : Str} {n m : Nat} {S T : List Fl} {F G : Fl} (hF : Led w x n S F) (hG : Led w x m T G) (h : ∀ f, f ∈ S ↔ f ∈ T) : F = G := by
  have e1 : F.known = G.known := known_eq hF.wf.nd hG.wf.nd hF.wf.sd hG.wf.sd fun p => by
    rw [Bool.eq_iff_iff, hF.isJ.known, hG.isJ.known]
    simp only [h]
  have e2 : F.names = G.names := sd_eq hF.wf.names.sd hG.wf.names.sd hF.wf.names.nd hG.wf.names.nd (IsW.same h hF.isJ.names hG.isJ.names)
  have e3 : F.texts = G.texts := sd_eq hF.wf.texts.sd hG.wf.texts.sd hF.wf.texts.nd hG.wf.texts.nd (IsW.same h hF.isJ.texts hG.isJ.texts)
  have e4 : F.id = G.id := hF.wf.id.trans hG.wf.id.symm
  have e5 : F.first = G.first := hF.wf.first.trans hG.wf.first.symm
  cases F; cases G
  simp only at e1 e2 e3 e4 e5
  subst e1 e2 e3 e4 e5
  rfl
end
end MM
namespace MM
open PySem L2 PySem.W
noncomputable section
def m_law_perm : FM := mF 4 (sSeq (sAsg (eListRangeM (eVar 1)) (gNm 2))
  (sRet (eLc (iArgs rng1 (aCons (eVar 1) (aNil))) (gNm 3) (tYesM) (eBm .list mPop (eVar 2) (aCons (eCall m_law_mix (aCons (e2 vAdd (eVar 0) (e2 vMul (eC (.int 5)) (eVar 3))) (aCons (eC (.int 9967)) (aCons (e2 vSub (eVar 1) (eVar 3)) (aNil))))) (aNil))) [3] frozen)))
theorem strOk_sg {l : List Nat} (h : ∀ c ∈ l, c < 1114112) : PyData.strOk (sg l) = true := by
  show (sg l).cps.all (· < 0x110000) = true
  simp only [sg, List.all_toArray, List.all_eq_true, decide_eq_true_eq]
  exact h
theorem lname_ok (c : Int) : PyData.strOk (sg (lname c)) = true := strOk_sg fun x hx => by
  have h := lname_mem hx
  have : ∀ y ∈ lets, y < 1114112 := by decide
  exact this x h
theorem ltext_mem {c : Int} {x : Nat} (h : x ∈ ltext c) : x ∈ signsT := by
  unfold ltext at h
  split at h
  · split at h
    · cases h
    · simp at h; subst h; decide
    · simp at h; rcases h with rfl | rfl | rfl <;> decide
  · exact drawn_mem (by decide) h
theorem ltext_ok (c : Int) : PyData.strOk (sg (ltext c)) = true := strOk_sg fun x hx => by
  have h := ltext_mem hx
  have : ∀ y ∈ signsT, y < 1114112 := by decide
  exact this x h
def wd (kind seed : Int) (m : Mk) : Str := if kind = 1 then sg (ltext (seed + 97 * m.1 + 13 * m.2)) else sg (lname (seed + 97 * m.1 + 13 * m.2))
/-- a comprehension that changes things, with an invariant -/
theorem lc_inv {xs : List Val} {g : GM} {te : EM} {l : Loc} {h : HM} (I : Nat → List Val → HM → Prop) (h0 : I 0 [] h)
    (hs : ∀ i x acc h, xs[i]? = some x → I i acc h → ∃ l1 y h2, g x l = some l1 ∧ te l1 h = .ok y h2 ∧ I (i + 1) (acc ++ [y]) h2) (hl : xs.length ≤ sizeLine) :
    ∃ ys h', lcL (srcItems xs) g tYesM te l (srcItems xs).len 0 h [] = .ok ys h' ∧ I xs.length ys h' := by
  have gen : ∀ (n i : Nat) (acc : List Val) (h : HM), i + n = xs.length → acc.length = i → I i acc h → ∃ ys h', lcL (srcItems xs) g tYesM te l n i h acc = .ok ys h' ∧ I xs.length ys h' := by
    intro n
    induction n with
    | zero =>
      intro i acc h hi ha hI
      have : i = xs.length := by omega
      subst this
      exact ⟨acc, h, by simp [lcL, srcItems], hI⟩
    | succ n ih =>
      intro i acc h hi ha hI
      have hlt : i < xs.length := by omega
      have hg : (srcItems xs).get i h = some xs[i] := by simp [srcItems, hlt]
      obtain ⟨l1, y, h2, e1, e2, hI2⟩ := hs i xs[i] acc h (by simp [hlt]) hI
      simp only [lcL, hg, e1, tYesM, e2]
      rw [if_pos (by omega)]
      exact ih (i + 1) _ h2 (by omega) (by simp [ha]) hI2
  exact gen xs.length 0 [] h (by omega) rfl h0
theorem erase_perm {α : Type} : ∀ {l : List α} {i : Nat} (h : i < l.length), (l[i] :: l.eraseIdx i).Perm l
  | a :: l, 0, _ => by simp
  | a :: l, i + 1, h => by
    have h2 : i < l.length := by simpa using h
    have ih := erase_perm (l := l) (i := i) h2
    simp only [List.getElem_cons_succ, List.eraseIdx_cons_succ]
    exact (List.Perm.swap a l[i] _).trans (ih.cons a)
theorem map_erase {α β : Type} {f : α → β} {l : List α} {i : Nat} : (l.map f).eraseIdx i = (l.eraseIdx i).map f := by
  simp [List.eraseIdx_eq_take_drop_succ, List.map_take, List.map_drop]
def permF (c n : Int) : Nat → List Int × List Int
  | 0 => ([], (List.range n.toNat).map fun (i : Nat) => (0 + (i : Nat) : Int))
  | i + 1 => ((permF c n i).1 ++ [((permF c n i).2[(mix (c + 5 * (i : Nat)) 9967 (n - (i : Nat))).toNat]?).getD 0], (permF c n i).2.eraseIdx (mix (c + 5 * (i : Nat)) 9967 (n - (i : Nat))).toNat)
theorem permF_s1 {c n : Int} {i : Nat} : (permF c n (i + 1)).1 = (permF c n i).1 ++ [((permF c n i).2[(mix (c + 5 * (i : Nat)) 9967 (n - (i : Nat))).toNat]?).getD 0] := rfl
theorem permF_s2 {c n : Int} {i : Nat} : (permF c n (i + 1)).2 = (permF c n i).2.eraseIdx (mix (c + 5 * (i : Nat)) 9967 (n - (i : Nat))).toNat := rfl
theorem permF_ok {c n : Int} : ∀ {i : Nat}, i ≤ n.toNat → (permF c n i).2.length = n.toNat - i ∧ ((permF c n i).1 ++ (permF c n i).2).Perm ((List.range n.toNat).map fun (i : Nat) => (0 + (i : Nat) : Int))
  | 0, _ => ⟨by simp [permF], by simp [permF]⟩
  | i + 1, hi => by
    obtain ⟨h1, h2⟩ := permF_ok (c := c) (n := n) (i := i) (by omega)
    have m0 := mix_nn (c := c + 5 * (i : Nat)) (p := 9967) (m := n - (i : Nat)) (by omega)
    have m1 := mix_lt (c := c + 5 * (i : Nat)) (p := 9967) (m := n - (i : Nat)) (by omega)
    unfold permF
    generalize mix (c + 5 * (i : Nat)) 9967 (n - (i : Nat)) = j at m0 m1
    generalize permF c n i = pr at h1 h2
    have hj : j.toNat < pr.2.length := by omega
    refine ⟨?_, ?_⟩
    · show (pr.2.eraseIdx j.toNat).length = _
      rw [List.length_eraseIdx]; split <;> omega
    · show (pr.1 ++ [(pr.2[j.toNat]?).getD 0] ++ pr.2.eraseIdx j.toNat).Perm _
      have e : (pr.2[j.toNat]?).getD 0 = pr.2[j.toNat] := by simp [hj]
      rw [e, List.append_assoc, List.singleton_append]
      exact ((erase_perm hj).append_left pr.1).trans h2
def lperm (c n : Int) : List Int := (permF c n n.toNat).1
theorem lperm_perm {c n : Int} : (lperm c n).Perm ((List.range n.toNat).map fun (i : Nat) => (0 + (i : Nat) : Int)) := by
  obtain ⟨h1, h2⟩ := permF_ok (c := c) (n := n) (i := n.toNat) (Nat.le_refl _)
  have : (permF c n n.toNat).2 = [] := List.length_eq_zero_iff.mp (by omega)
  rw [this, List.append_nil] at h2
  exact h2
theorem pop_last {h : HM} {ys : List Val} {j : Int} {y : Val} (h0 : 0 ≤ j) (h1 : j < 1000000) (e : ys[j.toNat]? = some y) : mPop (.ref (List.length h)) [.int j] (h ++ [.lst ys]) = .ok y (h ++ [.lst (ys.eraseIdx j.toNat)]) := by
  have hlt : j.toNat < ys.length := (List.getElem?_eq_some_iff.mp e).1
  have es : seqIndex? j ys.length = some j.toNat := by
    unfold seqIndex?
    have : ¬ j < 0 := by omega
    simp only [this, if_false]
    rw [if_pos (by simp; omega)]
  simp only [mPop, last_get, es, e, last_set]
  rw [if_pos (by omega)]
end
end MM
namespace MM
open PySem L2 PySem.W
noncomputable section
theorem perm_step {c n : Int} {i : Nat} {h : HM} (hn : n ≤ 1000) (hi' : i < n.toNat) (h5 : ∀ (k : Int) (h : HM), vMul (.int 5) (.int k) h = .ok (.int (5 * k)) h) :
    (eBm .list mPop (eVar 2) (aCons (eCall m_law_mix (aCons (e2 vAdd (eVar 0) (e2 vMul (eC (.int 5)) (eVar 3))) (aCons (eC (.int 9967)) (aCons (e2 vSub (eVar 1) (eVar 3)) (aNil))))) (aNil))) [some (.int c), some (.int n), some (.ref (List.length h)), some (.int (i : Nat))] (h ++ [.lst ((permF c n i).2.map .int)])
      = .ok (.int (((permF c n i).2[(mix (c + 5 * (i : Nat)) 9967 (n - (i : Nat))).toNat]?).getD 0)) (h ++ [.lst ((permF c n (i + 1)).2.map .int)]) := by
  obtain ⟨q1, q2⟩ := permF_ok (c := c) (n := n) (i := i) (by omega)
  have m0 := mix_nn (c := c + 5 * (i : Nat)) (p := 9967) (m := n - (i : Nat)) (by omega)
  have m1 := mix_lt (c := c + 5 * (i : Nat)) (p := 9967) (m := n - (i : Nat)) (by omega)
  have mm : ∀ h, m_law_mix [.int (c + 5 * (i : Nat)), .int 9967, .int (n - (i : Nat))] h = .ok (.int (mix (c + 5 * (i : Nat)) 9967 (n - (i : Nat)))) h := fun h => at_mix (by decide) (by omega)
  simp only [permF_s2]
  generalize mix (c + 5 * (i : Nat)) 9967 (n - (i : Nat)) = j at m0 m1 mm
  generalize permF c n i = pr at q1 q2
  have hj : j.toNat < pr.2.length := by omega
  have hp := pop_last (h := h) (ys := pr.2.map Val.int) (j := j) (y := .int pr.2[j.toNat]) m0 (by omega) (by simp [hj])
  rw [map_erase] at hp
  simp [h5, mm, hp, hj]
theorem ev_lrM {m : EM} {j : Int} {l : Loc} {h : HM} (e : m l h = .ok (.int j) h) (hj : -(2 ^ 61) ≤ j ∧ j ≤ 16777216) : eListRangeM m l h = .ok (.ref h.length) (h ++ [.lst (intsV 0 j.toNat)]) := by
  simp only [eListRangeM, e, Res.bind_ok]
  rw [if_pos hj]
theorem at_perm {c n : Int} {h : HM} (h0 : 0 ≤ n) (hn : n ≤ 1000) : m_law_perm [.int c, .int n] h = .ok (.lst ((lperm c n).map .int)) (h ++ [.lst ((permF c n n.toNat).2.map Val.int)]) := by
  have h5 : ∀ (k : Int) (h : HM), vMul (.int 5) (.int k) h = .ok (.int (5 * k)) h := fun k h => ev_mulI (.inl (by decide))
  obtain ⟨ys, h', e, e1, e2⟩ := lc_inv (xs := intsV 0 n.toNat) (g := gNm 3) (te := (eBm .list mPop (eVar 2) (aCons (eCall m_law_mix (aCons (e2 vAdd (eVar 0) (e2 vMul (eC (.int 5)) (eVar 3))) (aCons (eC (.int 9967)) (aCons (e2 vSub (eVar 1) (eVar 3)) (aNil))))) (aNil)))) (l := [some (.int c), some (.int n), some (.ref (List.length h)), none]) (h := h ++ [.lst (intsV 0 n.toNat)])
    (fun i acc h' => acc = (permF c n i).1.map .int ∧ h' = h ++ [.lst ((permF c n i).2.map .int)]) ⟨rfl, by simp [intsV, permF, Function.comp_def]⟩ (by
    rintro i x acc h' hx ⟨rfl, rfl⟩
    obtain ⟨hi, rfl⟩ := intsV_at hx
    rw [Int.zero_add]
    refine ⟨_, _, _, rfl, perm_step hn hi h5, ?_, rfl⟩
    rw [permF_s1, List.map_append]
    rfl) (by rw [sizeLine_eq]; simp [intsV]; omega)
  have ils : (intsV 0 n.toNat).length = n.toNat := by simp [intsV]
  rw [ils] at e1 e2
  have er : ∀ h, rng1 [.int n] h = .ok (srcItems (intsV 0 n.toNat)) h := fun h => ev_rng1 (by omega)
  have lr : ∀ h, eListRangeM (eVar 1) [some (.int c), some (.int n), none, none] h = .ok (.ref (List.length h)) (h ++ [.lst (intsV 0 n.toNat)]) := fun h => ev_lrM rfl (by omega)
  subst e1 e2
  unfold m_law_perm mF
  simp only [ev_sSeq, ev_sAsg, ev_sRet, List.map_cons, List.map_nil, List.length_cons, List.length_nil, List.replicate, List.cons_append, List.nil_append, Nat.zero_add, Nat.reduceAdd, Nat.reduceSub, lr, Res.thn_ok, ev_gNmS, ev_gNm0, Option.map_some, ev_eLc, ev_iArgs, ev_aCons, ev_aNil, ev_VarS, ev_Var0, Res.bind_ok, er, wipeL]
  simp only [List.foldl_cons, List.foldl_nil, List.set_cons_succ, List.set_cons_zero]
  simp only [e, Res.bind_ok, ev_frozen, lperm, Res.thn_ok]
def s_law_perm : FM := fun xs h => match xs with
  | [.int c, .int n] => if 0 ≤ n ∧ n ≤ 1000 then .ok (.lst ((lperm c n).map .int)) h else .bad
  | _ => .bad
theorem frz_ints {h : HM} {n : Nat} (ks : List Int) : FrzS h n (ks.map .int) (ks.map .int) := by
  induction ks with
  | nil => exact .nil
  | cons k ks ih => exact .cons (.int _) ih
theorem le_law_perm (xs : List Val) (h : HM) (_ : xs.length = 2) (w : Wf h) (_ : CloS h.length xs) : Le h (s_law_perm xs h) (m_law_perm xs h) := by
  unfold s_law_perm
  split
  · rename_i c n _ _
    split
    · rename_i hh
      rw [at_perm hh.1 hh.2]
      exact .pure w (.lst (frz_ints _))
    · exact .bad
  · exact .bad
theorem perm_ok {c n : Int} {h : HM} (hh : 0 ≤ n ∧ n ≤ 1000) : s_law_perm [.int c, .int n] h = .ok (.lst ((lperm c n).map .int)) h := if_pos hh
end
end MM
namespace MM
open PySem L2 PySem.W
noncomputable section
theorem same_mks (ks : List Mk) : sameBs (ks.map eM) (ks.map eM) = true := by
  induction ks with
  | nil => simp [sameBs]
  | cons k ks ih => simp [sameBs, ih, eM, sameB, tupL]
theorem same_wds (ks : List Wd) : sameBs (ks.map eW) (ks.map eW) = true := by
  induction ks with
  | nil => simp [sameBs]
  | cons k ks ih => simp [sameBs, ih, eW, eM, sameB, tupL]
theorem pl_mks {d : Nat} (ks : List Mk) : (ks.map eM).all (pl (d + 1)) = true := by
  induction ks with
  | nil => rfl
  | cons k ks ih => rw [List.map_cons, List.all_cons, ih]; simp [eM, pl]
theorem pl_wds {d : Nat} {ks : List Wd} (ho : okW ks) : (ks.map eW).all (pl (d + 2)) = true := by
  induction ks with
  | nil => rfl
  | cons k ks ih => rw [List.map_cons, List.all_cons, ih fun p hp => ho p (List.mem_cons_of_mem _ hp)]; simp [eM, eW, pl, ho k List.mem_cons_self]
theorem pl_tupL {d : Nat} {k : Val} {xs : List Val} (hk : tupL k = some xs) (hl : xs.length ≤ 1000000) (h : xs.all (pl d) = true) : pl (d + 1) k = true := by
  cases k <;> first | (cases hk; done) | (cases hk; simp only [pl, h, hl, decide_true, Bool.and_self])
theorem pl_file {w : Mk} {x : Str} {n d : Nat} {F : Fl} {k : Val} (hF : Wff w x n F) (hn : n ≤ 1000) (hx : PyData.strOk x = true) (hk : tupL k = some (F.known.map eM)) : pl (d + 4) (eFk F k) = true := by
  have l1 := hF.len; have l2 := hF.names.len; have l3 := hF.texts.len
  have p1 : pl (d + 3) k = true := pl_tupL hk (by simp; omega) (pl_mks _)
  have p2 : pl (d + 3) (.tup (F.names.map eW)) = true := pl_tupL rfl (by simp; omega) (pl_wds hF.names.ok)
  have p3 : pl (d + 3) (.tup (F.texts.map eW)) = true := pl_tupL rfl (by simp; omega) (pl_wds hF.texts.ok)
  have p4 : pl (d + 3) (eM F.id) = true := by simp [eM, pl]
  have p5 : pl (d + 3) (.str F.first) = true := by rw [hF.first]; exact hx
  refine pl_tupL (xs := [eM F.id, .str F.first, k, .tup (F.names.map eW), .tup (F.texts.map eW)]) rfl (by simp) ?_
  simp only [List.all_cons, List.all_nil, p1, p2, p3, p4, p5, Bool.and_self]
theorem sameB_tup {f e : Val} {xs ys : List Val} (hf : tupL f = some xs) (he : tupL e = some ys) : sameB f e = sameBs xs ys := by
  cases e <;> first | (cases he; done) | (cases he; simp only [sameB, hf])
theorem sameB_file {F : Fl} {k j : Val} (hk : tupL k = some (F.known.map eM)) (hj : tupL j = some (F.known.map eM)) : sameB (eFk F k) (eFk F j) = true := by
  rw [sameB_tup (f := eFk F k) (e := eFk F j) rfl rfl]
  have e1 : sameB k j = true := by rw [sameB_tup hk hj]; exact same_mks _
  have e2 : sameB (.tup (F.names.map eW)) (.tup (F.names.map eW)) = true := by rw [sameB_tup rfl rfl]; exact same_wds _
  have e3 : sameB (.tup (F.texts.map eW)) (.tup (F.texts.map eW)) = true := by rw [sameB_tup rfl rfl]; exact same_wds _
  have e4 : sameB (eM F.id) (eM F.id) = true := by simp [eM, sameB, sameBs, tupL]
  have e5 : sameB (.str F.first) (.str F.first) = true := by simp [sameB]
  simp only [sameBs, e1, e2, e3, e4, e5, Bool.and_self]
end
end MM
namespace MM
open PySem L2
end MM
namespace MM
open PySem L2 PySem.Spec PyProof.Rows
/-- each thing once, in the order of its first place -/
def addU {κ : Type} [DecidableEq κ] (l : List κ) (k : κ) : List κ := if k ∈ l then l else l ++ [k]
def uniq {κ : Type} [DecidableEq κ] (xs : List κ) : List κ := xs.foldl addU []
theorem mem_addU {κ : Type} [DecidableEq κ] {l : List κ} {k j : κ} : j ∈ addU l k ↔ j ∈ l ∨ j = k := by
  unfold addU
  split
  · exact ⟨.inl, fun h => h.elim id fun e => by subst e; assumption⟩
  · simp
theorem uniq_snoc {κ : Type} [DecidableEq κ] {xs : List κ} {k : κ} : uniq (xs ++ [k]) = addU (uniq xs) k := by simp [uniq]
theorem uniq_len {κ : Type} [DecidableEq κ] {xs : List κ} : (uniq xs).length ≤ xs.length := by
  have gen : ∀ (ys acc : List κ), (ys.foldl addU acc).length ≤ acc.length + ys.length := by
    intro ys
    induction ys with
    | nil => intro acc; simp
    | cons y ys ih =>
      intro acc
      have h1 : (addU acc y).length ≤ acc.length + 1 := by unfold addU; split <;> simp
      have h2 := ih (addU acc y)
      simp only [List.foldl_cons, List.length_cons]
      omega
  simpa [uniq] using gen xs []
section
variable {κ : Type} [DecidableEq κ] {P : Program} {w : World} {D : KeyKind P w κ} {A : Around}
def memU (xs : List κ) (i : Nat) : κ → Bool := fun k => decide (k ∈ uniq (xs.take i))
theorem memU_next {xs : List κ} {i : Nat} {x : κ} (e : xs[i]? = some x) : memU xs (i + 1) = fun k => memU xs i k || decide (k = x) := by
  funext k
  have et : xs.take (i + 1) = xs.take i ++ [x] := by rw [List.take_succ, e]; rfl
  unfold memU
  rw [et, uniq_snoc, Bool.eq_iff_iff]
  simp [mem_addU]
theorem lenU_next {xs : List κ} {i : Nat} {x : κ} (e : xs[i]? = some x) : (uniq (xs.take (i + 1))).length = if memU xs i x = true then (uniq (xs.take i)).length else (uniq (xs.take i)).length + 1 := by
  have et : xs.take (i + 1) = xs.take i ++ [x] := by rw [List.take_succ, e]; rfl
  rw [et, uniq_snoc]
  unfold addU memU
  by_cases h : x ∈ uniq (xs.take i) <;> simp [h]
theorem setOf_move {h h' : Heap} {a : Addr} {S : κ → Bool} {n : Nat} (R : h.SetOf D a S n) (k : ∀ o, h.get? a = some o → h'.get? a = some o) : h'.SetOf D a S n := let ⟨o, es, ep, t, ho, r⟩ := R; ⟨o, es, ep, t, k o ho, r⟩
/-- the loop that puts what is walked into a set -/
theorem set_fill {it S : Addr} {fp wr : List Addr} {Gn : Array GenState → Array GenState → Prop} {Pv : Nat → Value → Prop} {St : Nat → Shared → Prop} {R : Result → Shared → Prop} {xs : List κ}
    (walk : WalksS P w A.in1 it fp wr Gn xs.length Pv St) (far : S ∉ fp) (few : xs.length + 1 < scanBound) (item : ∀ i v, Pv i v → ∃ k, xs[i]? = some k ∧ D.is k v = true ∧ v.scannable = true) :
    ∀ (m i : Nat) (s : Shared), i + m = xs.length → St i s → s.heap.SetOf D S (memU xs i) (uniq (xs.take i)).length →
      (∀ s', Moved (S :: wr) Gn s s' → s'.heap.SetOf D S (memU xs xs.length) (uniq xs).length → R (.ok (.ret .none)) s') →
      codeAny (model P w) A (.builtin "set.update.loop" ⟨[.ref S, .ref it], []⟩) R s := by
  have sw : S ∉ wr := fun z => far (walk.sub _ z)
  have up : ∀ b ∈ wr, b ∈ S :: wr := fun b z => .tail _ z
  intro m
  induction m with
  | zero =>
    intro i s hi st so fin
    obtain rfl : i = xs.length := by omega
    refine codeAny_builtin F.entry_set_update_loop ?_
    rw [Around.under_plainId F.plain_set_update_loop _]
    refine (show wpAny _ A.in1 (pyNext (.ref it) >>= _) _ _ s from wpAny_bind (walk.done s _ _ st fun s1 mv => ?_))
    refine (show wpAny _ A.in1 (ret Value.none) _ _ s1 from wpAny_pure (fin s1 (mv.mono up) ?_))
    have so1 := setOf_move so (mv.heap S · sw)
    rwa [List.take_length] at so1
  | succ m ih =>
    intro i s hi st so fin
    refine codeAny_builtin F.entry_set_update_loop ?_
    rw [Around.under_plainId F.plain_set_update_loop _]
    refine (show wpAny _ A.in1 (pyNext (.ref it) >>= _) _ _ s from wpAny_bind (walk.item i s _ _ (by omega) st fun v s1 pv st1 mv => ?_))
    obtain ⟨k, ek, isk, sc⟩ := item i v pv
    have so1 := setOf_move so (mv.heap S · sw)
    have lk := uniq_len (xs := xs.take i)
    rw [List.length_take] at lk
    refine (show wpAny _ A.in1 (holding [v] (setAdd S v) >>= _) _ _ s1 from wpAny_bind (wpAny_holding ?_))
    unfold setAdd
    refine wpAny_holding (wpAny_bind (D.pyHash isk ?_))
    refine wpAny_setAddHashed_of (knd := D) (s := { s1 with toks := s1.toks + 1 }) isk sc so1 (by omega) fun h2 same so2 => ?_
    rw [← memU_next ek, ← lenU_next ek] at so2
    have other : ∀ b, b ≠ S → ∀ o, s1.heap.get? b = some o → h2.get? b = some o := fun b hb o e => (same.2 b hb).trans e
    refine wpAny_pure ⟨plainId_quiet F.plain_set_update_loop _, ih (i + 1) _ (by omega) (walk.frame _ s1 _ _ st1 (Nat.le_succ _) fun b hb o e => other b (fun z => far (z ▸ hb)) o e) so2 fun s3 mv3 so3 => ?_⟩
    exact fin s3 (Moved.trans walk.gtrans ((mv.mono up).then_heap (Nat.le_succ _) fun b o hb e => other b (fun z => hb (z ▸ .head _)) o e) mv3) so3
end
section
variable {κ : Type} [DecidableEq κ] {P : Program} {w : World} (D : KeyKind P w κ) {A : Around} {E : Value → Shared → Prop} {s : Shared}
def newSet (led : Bool) : Obj := { cls := .type "set", dict := none, data := .set #[] 0 (.fresh 0 0 led) }
/-- set(list) of keys -/
theorem call_set_keys {l : Addr} {its : Array Value} {xs : List κ} {Q : Value → Shared → Prop} (hh : A.handled = none) (hl : s.heap.IsList l its) (len : xs.length = its.size) (few : xs.length + 1 < scanBound)
    (item : ∀ (i : Nat) (v : Value), its[i]? = some v → ∃ k, xs[i]? = some k ∧ D.is k v = true ∧ v.scannable = true)
    (done : ∀ (h' : Heap) (tk : Nat), h'.SetOf D s.heap.objs.size (memU xs xs.length) (uniq xs).length → (∀ b o, b < s.heap.objs.size → s.heap.get? b = some o → h'.get? b = some o) → Q (.ref s.heap.objs.size) { s with heap := h', toks := tk }) :
    wpAny (model P w) A (call (.type "set") [.ref l]) Q E s := by
  have T := F.called_set
  obtain ⟨c, tl, tmro⟩ := T.mro
  have tmade := T.made
  have tsub := T.sub
  have tnot := T.notType
  have tcan := T.canCreate
  have tcheck := F.typeCall_set_1 (.ref l)
  have tini := T.init.lookup
  have tbnd := T.init.bind (.ref s.heap.objs.size)
  refine wpAny_call (codeAny_of_tree (show wpAny _ _ (callAny (.type "set") _) _ _ _ from wpAny_pure ⟨Code.quiet_builtin _ (by decide +kernel), codeAny_builtin F.entry_type_call ?_⟩))
  rw [Around.under_plain (weight_type_call_type "set" [.ref l] []) rfl]
  repeat (any_goals (first | assumption | wp_step))
  refine codeAny_mono (code_set_new_1 (.ref l) (E := E) (Q₁ := fun v s1 => ∃ led : Bool, v = .ref s.heap.objs.size ∧ s1 = { s with heap := s.heap.push (newSet led) }) fun led => ⟨led, rfl, rfl⟩) fun r s1 hr => ?_
  match r, hr with
  | .error e, hr => exact hr
  | .ok (.ret v), hr =>
    obtain ⟨led, rfl, rfl⟩ := hr
    have gS : (s.heap.push (newSet led)).get? s.heap.objs.size = some (newSet led) := Heap.get?_push_size _ rfl
    have tS : Shared.TypeIs { s with heap := s.heap.push (newSet led) } (.ref s.heap.objs.size) "set" := ⟨_, gS, rfl⟩
    repeat (any_goals (first | assumption | wp_step))
    refine codeAny_mono (codeAny_call_builtin (R := wants (fun v s2 => v = .none ∧ ∃ h' tk, s2 = { s with heap := h', toks := tk } ∧ h'.SetOf D s.heap.objs.size (memU xs xs.length) (uniq xs).length ∧
        (∀ b o, b < s.heap.objs.size → s.heap.get? b = some o → h'.get? b = some o)) E) T.init.plain F.entry_set_init (check_set_init_1 tS ?_)) fun r2 s2 hr2 => ?_
    · obtain ⟨⟨oc, od, oda, os⟩, gl, cl, nl, dl⟩ := hl
      dsimp only at cl dl
      subst cl dl
      have gl1 : (s.heap.push (newSet led)).get? l = some ⟨.type "list", od, .seq its nl, os⟩ := Heap.get?_push_of_some _ gl
      have il1 : (s.heap.push (newSet led)).IsList l its := ⟨_, gl1, rfl, nl, rfl⟩
      have z1 := F.sub_list_set
      have z2 := F.sub_list_frozenset
      have z3 : (Value.type "list" == Value.type "dict") = false := by decide
      unfold Builtin.«set.__init__» noKeywords Builtin.Frozenset.updateFrom
      generalize hp : pyIter = pI
      wp_walk
      subst hp
      refine wpAny_pyIter_list il1 (wpAny_bind (wpAny_runValue ?_))
      have lt : l < s.heap.objs.size := Heap.lt_size gl
      have sz : (s.heap.push (newSet led)).objs.size = s.heap.objs.size + 1 := Heap.size_push _ _
      have hh3 : A.in1.in1.in1.handled = none := by simp [hh]
      have W := (Walks.list (prog := P) (w := w) hh3 (s.heap.push (newSet led)).objs.size l (by rw [sz]; exact Nat.ne_of_lt (Nat.lt_succ_of_lt lt)) its).toS
      rw [← len] at W
      refine set_fill (D := D) W (S := s.heap.objs.size) (by rw [sz]; exact fun z => (List.mem_cons.mp z).elim (fun e => Nat.ne_of_lt (Nat.lt_succ_self _) e) fun z => Nat.ne_of_gt lt (List.mem_singleton.mp z)) few item xs.length 0 _ (Nat.zero_add _) ⟨⟨_, Heap.get?_push_size _ rfl, rfl, rfl⟩, il1.push _⟩ ?_ ?_
      · exact (setObjOf_fresh (knd := D) led).setOf (Heap.get?_push_of_some _ gS) (by decide)
      · intro s3 mv so
        obtain ⟨h3, g3, d3, t3, o3⟩ := s3
        obtain rfl : g3 = s.gens := mv.gens
        obtain rfl : d3 = s.drawn := mv.drawn
        obtain rfl : o3 = s.os := mv.os
        refine (show wpAny _ _ _ _ _ _ from wpAny_pure (show wpAny _ _ (ret Value.none) _ _ _ from wpAny_pure ⟨rfl, h3, t3, rfl, so, fun b o hb e => ?_⟩))
        refine mv.heap b o ?_ (Heap.get?_push_of_some _ (Heap.get?_push_of_some _ e))
        rw [sz]
        exact fun z => (List.mem_cons.mp z).elim (fun e => Nat.ne_of_lt hb e) fun z => Nat.ne_of_lt (Nat.lt_succ_of_lt hb) (List.mem_singleton.mp z)
    · match r2, hr2 with
      | .error e, hr2 => exact hr2
      | .ok (.ret v), hr2 =>
        obtain ⟨rfl, h', tk, rfl, so, old⟩ := hr2
        repeat (any_goals (first | assumption | wp_step))
        exact done _ _ so old
      | .ok .next, hr2 => exact hr2.elim
      | .ok .brk, hr2 => exact hr2.elim
      | .ok .cont, hr2 => exact hr2.elim
  | .ok .next, hr => exact hr.elim
  | .ok .brk, hr => exact hr.elim
  | .ok .cont, hr => exact hr.elim
end
section
variable {X : Cx} {G : Glob} {W : WX} {a : Expr} {me : EM} {p p2 q pos : Pos}
theorem vals_at : ∀ {ys : List Str} {us : List Value}, Vals (ys.map V.str) us → ∀ (i : Nat) (v : Value), us[i]? = some v → ∃ y t, ys[i]? = some y ∧ v = .str y t
  | [], _, .nil, i, v, h => by simp at h
  | _ :: _, _ :: _, .cons r _, 0, v, h => by
    obtain ⟨t, e⟩ := r
    cases h
    exact ⟨_, t, rfl, e⟩
  | _ :: _, _ :: _, .cons _ r, i + 1, v, h => vals_at r i v h
/-- len(set(xs)), xs a list of texts -/
def vLenSet (v : Val) (h : HM) : Res Val := match v with
  | .lst xs => (match strsOf xs with
    | some ys => if ys.length ≤ 1000 then .ok (.int (uniq ys).length) h else .bad
    | none => .bad)
  | _ => .bad
def eLenSet (m : EM) : EM := fun l h => (m l h).bind vLenSet
theorem me_lenSet (hu : X.A.units + 200 < cLine) (hg : Gl X "len") (hm : X.mg "len" = none) (hm2 : X.mg "set" = none) (ha : ME X G W a me) (hc : X.calm = true := by rfl) (hg2 : Gl X "set" := by rfl)
    (na : starEach [a] X.env = (false, eval a X.env) :: starEach [] X.env := by rfl) : ME X G W (.Call (.Name "len" p) [.Call (.Name "set" p2) [a] [] q] [] pos) (eLenSet me) := by
  refine ⟨fun pins s σ H Q I ⟨r, h, l, qq, hl, pp⟩ => ?_⟩
  refine Call_ (ld_blt I hg hm boot_len (PyProof.Rows.callWith_builtin1 (PyProof.Rows.args_cons ?_ rfl) rfl rfl))
  refine Call_ (ld_blt I hg2 hm2 boot_set (PyProof.Rows.callWith_type1 (PyProof.Rows.args_cons (thn (ha.run pins s σ H _ I ⟨r, h, l, qq, hl, Post.bind pp⟩) fun v s1 ⟨x, H1, I1, rx, ⟨r1, h1, w1, e1, q1, z1, p1⟩⟩ => PyProof.Rows.args_nil ?_) na) na rfl))
  cases z1 with
  | @lst b vs xs d o z =>
    unfold vLenSet at p1
    dsimp only at p1
    cases es : strsOf xs with
    | none => rw [es] at p1; exact p1.elim
    | some ys =>
      rw [es] at p1
      dsimp only at p1
      split at p1
      · rename_i hy
        cases rx
        have ev := strs_ok z es
        subst ev
        obtain ⟨its, rv, pl, hz⟩ := I1.list (.inl (.inl d))
        have hn : ys.length = its.toArray.size := by have := rv.length; simpa using this
        refine call_set_keys (PySem.strKind X.prog X.w) (I1.ok.hd hc) pl.isList hn (by unfold scanBound; omega) (fun i v hv => ?_) fun h' tk so old => PyProof.Rows.args_nil ?_
        · obtain ⟨y, t, h1, h2⟩ := vals_at rv i v (by simpa using hv)
          exact ⟨y, h1, by rw [h2]; exact strKind_is _ _ _ _, by rw [h2]; rfl⟩
        · obtain ⟨oo, es', ep, tt, ho, hex, hd, _, _, _, hf, hn2⟩ := so
          have lu := uniq_len (xs := ys)
          have I2 : Inv X pins σ H1 { s1 with heap := h', toks := tk } := I1.kept fun b o e => old b o (Heap.lt_size e) e
          exact call_len_set ho hex hd hf (by omega) ⟨.int (uniq ys).length, H1, I2.tok _, ⟨_, by rw [hn2]⟩, Post.here q1 (.int _) p1⟩
      · exact p1.elim
  | _ => exact p1.elim
end
end MM
namespace MM
open PySem L2 PySem.W
section
variable {P : Program} {w : World} {A : Around} {E : Value → Shared → Prop} {s : Shared}
/-- the list that a tuple's things are put into -/
def heapC (h : Heap) (us : List Value) : Heap := (h.push (PyProof.Rows.seqObj "list" #[] 0)).update h.objs.size (Obj.mapSeq (· ++ us.toArray))
theorem heapC_old {h : Heap} {us : List Value} {b : Addr} {o : Obj} (e : h.get? b = some o) : (heapC h us).get? b = some o := by
  have lt : b < h.objs.size := Heap.lt_size e
  unfold heapC
  rw [Heap.get?_update_ne _ _ _ _ (Nat.ne_of_lt lt)]
  exact Heap.get?_push_of_some _ e
theorem tuple_collect {a : Addr} {us : List Value} {Q : List Value → Shared → Prop} (ht : s.heap.IsTuple a us.toArray) (hz : us.length ≤ sizeLine) (done : Q us { s with heap := heapC s.heap us }) : wpAny (model P w) A (collect (.ref a)) Q E s := by
  obtain ⟨ob, go, co, n, dat⟩ := ht
  have at0 : (s.heap.push (PyProof.Rows.seqObj "list" #[] 0)).get? s.heap.objs.size = some (PyProof.Rows.seqObj "list" #[] 0) := Heap.get?_push_size _ rfl
  have at1 : (s.heap.push (PyProof.Rows.seqObj "list" #[] 0)).get? a = some ob := Heap.get?_push_of_some _ go
  have emp : (#[] : Array Value) ++ us.toArray = us.toArray := by simp
  unfold collect
  refine wpAny_bind (wpAny_runValue (codeAny_builtin PyProof.Rows.entry_proto_collect' (show wpAny _ _ (do again (.builtin "list.__iadd__" ⟨[← newList [], .ref a], []⟩)) _ _ s from wpAny_bind (wpAny_newList (wpAny_pure ⟨Code.quiet_builtin _ (by decide +kernel), codeAny_builtin PyProof.Rows.entry_list_iadd' ?_⟩)))))
  refine (show wpAny _ _ (Builtin.List.listExtendWith (.ref s.heap.objs.size) (.ref a) (.ref s.heap.objs.size)) _ _ { s with heap := s.heap.push (PyProof.Rows.seqObj "list" #[] 0) } from ?_)
  unfold Builtin.List.listExtendWith
  refine wpAny_bind (wpAny_typeOf (T := "tuple") ⟨ob, at1, co⟩ ?_)
  have q2 : (Value.type "tuple" == Value.type "tuple") = true := rfl
  simp only [q2, Bool.or_true, if_true]
  refine wpAny_bind (PyProof.Rows.listItems_at at1 dat (wpAny_bind (PyProof.Rows.listItems_at at0 rfl ?_)))
  rw [if_neg (by simp)]
  refine wpAny_bind (PyProof.Rows.listUpdate_at at0 rfl (wpAny_pure ?_) (Nat.zero_le _) (by rw [emp]; simp; omega))
  refine (show wpAny (model P w) A (do let o ← load s.heap.objs.size; match o.data with | .seq xs _ => pure xs.toList | _ => unsupported "internal:collect") Q E { s with heap := heapC s.heap us } from ?_)
  refine wpAny_bind (wpAny_load (PyProof.Rows.get?_update_seq at0 _) (show wpAny _ _ (pure ((#[] : Array Value) ++ us.toArray).toList) Q E _ from ?_))
  rw [emp]
  exact wpAny_pure (by simpa using done)
end
section
variable {X : Cx} {G : Glob}
def rSortTup (K : PySem.W.Frag) : List V → Hp → VK → Prop := fun vs H Q => ∃ (a : Addr) (bs : List Tri), vs = [V.ref a] ∧ SqT K H a (bs.map (·.2.1)) ∧ (∀ b ∈ bs, Dp K H b.2.1 b.2.2) ∧ CanSort (bs.map (·.2.2)) ∧
  ∀ p, H p = none → Q (.ref p) (upd H p (.lst ((bs.mergeSort dle).map (·.2.1))))
theorem cr_sortTup (hu : X.A.units + 200 < cLine) (hcalm : X.calm = true) : CallR X (.builtin "sorted") (rSortTup X.K) := by
  intro pins s σ H vs us Q I r hq
  obtain ⟨a, bs, rfl, hs, hd, hc, q⟩ := hq
  obtain ⟨its, rv, ht, hz⟩ := I.tuple hs
  obtain ⟨u, rfl, ru⟩ := vals1 r
  obtain rfl : u = Value.ref a := ru
  have len0 : bs.length ≤ sizeLine := by simpa using hc.len
  have hal : its.length = bs.length := by have := rv.length; rw [List.length_map] at this; exact this.symm
  refine Calls.call_function_entry PyProof.Rows.kind_sorted PyProof.Rows.plain_sorted PyProof.Rows.entry_sorted (PyProof.Rows.args_sorted1 _) ?_
  unfold Builtin.«sorted»
  refine wpAny_bind (m := checkCount "sorted" 1 1 _) (wpAny_pure (wpAny_bind (tuple_collect ht (by rw [hal]; exact len0) ?_)))
  have I1 : Inv X pins σ H { s with heap := heapC s.heap its } := I.kept (t' := s.toks) fun b o e => heapC_old e
  obtain ⟨e1, e2⟩ := each_tri I1 rv hd
  refine wpAny_bind (wpAny_newList ?_ (by rw [hal]; exact len0))
  have atL : ((heapC s.heap its).push (PyProof.Rows.seqObj "list" its.toArray 0)).get? (heapC s.heap its).objs.size = some (PyProof.Rows.seqObj "list" its.toArray 0) := Heap.get?_push_size _ rfl
  refine (show wpAny _ _ _ _ _ { s with heap := (heapC s.heap its).push (PyProof.Rows.seqObj "list" its.toArray 0) } from ?_)
  have e3 : EachIs (fun v (b : Tri) => ∃ as, Reads (PySem.W.sortingHeap ((heapC s.heap its).push (PyProof.Rows.seqObj "list" its.toArray 0)) (heapC s.heap its).objs.size its) v b.2.2 as) its bs := e2.mono fun v b ⟨as, rd⟩ => ⟨as, PyProof.Rows.Reads.keeps (fun b o eo =>
    PySem.W.sortingHeap_old (Nat.ne_of_lt (Heap.lt_size eo)) (Heap.get?_push_of_some _ eo)) rd⟩
  have so : PySem.W.SortsAt X.prog X.w X.A.in1.in1 { s with heap := PySem.W.sortingHeap ((heapC s.heap its).push (PyProof.Rows.seqObj "list" its.toArray 0)) (heapC s.heap its).objs.size its } (dataKind (PySem.W.sortingHeap ((heapC s.heap its).push (PyProof.Rows.seqObj "list" its.toArray 0)) (heapC s.heap its).objs.size its) (bs.map (·.2.2))) its := by
    refine SortsAt.data (s := { s with heap := PySem.W.sortingHeap ((heapC s.heap its).push (PyProof.Rows.seqObj "list" its.toArray 0)) (heapC s.heap its).objs.size its }) (PySem.W.each_map (R := fun v d => ∃ as, Reads (PySem.W.sortingHeap ((heapC s.heap its).push (PyProof.Rows.seqObj "list" its.toArray 0)) (heapC s.heap its).objs.size its) v d as) (fun (t : Tri) => t.2.2) e3) hc.al hc.so fun d m => ?_
    have dd := hc.dep d m
    show X.A.units + 1 + 1 + d.depth < _
    omega
  refine wpAny_bind (wpAny_holding (wpAny_call_entry PyProof.Rows.slot_list_sort ⟨_, atL, rfl⟩ PyProof.Rows.entry_list_sort
    (PySem.W.list_sort_vals (s := { s with heap := (heapC s.heap its).push (PyProof.Rows.seqObj "list" its.toArray 0) }) atL so (by rw [hal]; exact len0) ⟨_, rfl, ?_⟩) (PyProof.Rows.args_list_sort _)))
  have he := PySem.W.sortVals_data (h' := PySem.W.sortingHeap ((heapC s.heap its).push (PyProof.Rows.seqObj "list" its.toArray 0)) (heapC s.heap its).objs.size its) (enc := fun (t : Tri) => t.2.2) false e1 e3 hc.al
  have rv2 := each_vals he
  obtain ⟨ep, he'⟩ := PyProof.Rows.sortedHeap_at (vs := its) (out := (sortVals (dataKind (PySem.W.sortingHeap ((heapC s.heap its).push (PyProof.Rows.seqObj "list" its.toArray 0)) (heapC s.heap its).objs.size its) (bs.map (·.2.2))) false its its).toArray) atL
  have hlen : (((bs.mergeSort dle)).map (·.2.1)).length ≤ sizeLine := by rw [List.length_map, List.length_mergeSort]; exact len0
  refine wpAny_pure ⟨_, rfl, .ref (heapC s.heap its).objs.size, upd H (heapC s.heap its).objs.size (.lst ((bs.mergeSort dle).map (·.2.1))), I1.laid (t' := s.toks) (fun b u e => ?_) (Nat.le_refl _)
    (show ObjOk X.prog X.w _ _ _ (.lst ((bs.mergeSort dle).map (·.2.1))) from ⟨hlen, _, ep, rv2, he'⟩), rfl, q _ (I1.hok.fresh (Nat.le_refl _))⟩
  have hb : b < (heapC s.heap its).objs.size := Heap.lt_size e
  rw [PyProof.Rows.sortedHeap_old (Nat.ne_of_lt hb) (by rw [PyProof.Rows.size_push']; exact Nat.lt_succ_of_lt hb)]
  exact Heap.get?_push_of_some _ e
open Classical in
/-- sorted(t) -/
noncomputable def bSortedT : BOp := fun xs h => match xs with
  | [v] => (match tupL v with
    | some ys => (match datFs ys with
      | some ds => if CanSort ds then .ok (.lst (sortV ys ds)) h else .bad
      | none => .bad)
    | none => .bad)
  | _ => .bad
theorem cm_sortedT (hu : X.A.units + 200 < cLine) (hc : X.calm = true) : CallM X G (.builtin "sorted") bSortedT := .of (cr_sortTup hu hc) fun W σ r h H xs vs Q q z p => by
  unfold bSortedT at p
  split at p
  · rename_i v
    cases z with
    | cons z1 z2 =>
      cases z2
      cases ei : tupL v with
      | none => rw [ei] at p; exact p.elim
      | some ys =>
        rw [ei] at p
        dsimp only at p
        cases ed : datFs ys with
        | none => rw [ed] at p; exact p.elim
        | some ds =>
          rw [ed] at p
          dsimp only at p
          by_cases hcs : CanSort ds
          · rw [if_pos hcs] at p
            cases z1 with
            | tup d o zz =>
              cases ei
              obtain ⟨bs, h1, h2, h3, h4⟩ := tri_of zz ed
              exact ⟨_, bs, rfl, by rw [h2]; exact .inl (.inl d), fun b m => (h4 b m).2 X.K, by rw [h3]; exact hcs, tri_fin q h1 h3 h4 p⟩
            | ptup d dn o zz =>
              cases ei
              obtain ⟨bs, h1, h2, h3, h4⟩ := tri_of zz ed
              exact ⟨_, bs, rfl, by rw [h2]; exact .inl (.inr ⟨_, d⟩), fun b m => (h4 b m).2 X.K, by rw [h3]; exact hcs, tri_fin q h1 h3 h4 p⟩
            | _ => cases ei
          · rw [if_neg hcs] at p; exact p.elim
  · exact p.elim
end
end MM
namespace MM
open PySem L2 PySem.W
noncomputable section
def m_is_gone : FM := mF 1 (sRet (e2 vEq (eBi bLen (aCons (e2 vIx (eVar 0) (eC (.int 4))) (aNil))) (eC (.int 0))))
def m_quarrels_of_f0 : SM := sIf (tOf (e2 vGt (eLenSet (eLc (iVal (eVar 3)) (gTp 2 (gsCons (gNm 4) (gsCons (gNm 5) (gsNil)))) (tYesM) (eVar 5) [4, 5] frozen)) (eC (.int 1)))) (sAsg (e2 vAdd (eVar 1) (eDisp mkTup (aCons (eVar 2) (aNil)))) (gNm 1)) (sNil)
def m_quarrels_of : FM := mF 6 (sSeq (sIf (tTru (eCall m_is_gone (aCons (eVar 0) (aNil)))) (sRet (eDisp mkTup (aNil))) (sNil))
  (sSeq (sAsg (eDisp mkTup (aNil)) (gNm 1))
  (sSeq (sFor (iVal (eDisp mkTup (aCons (eDisp mkTup (aCons (eC (.str "name")) (aCons (e2 vIx (eVar 0) (eC (.int 3))) (aNil)))) (aCons (eDisp mkTup (aCons (eC (.str "text")) (aCons (e2 vIx (eVar 0) (eC (.int 4))) (aNil)))) (aNil))))) (gTp 2 (gsCons (gNm 2) (gsCons (gNm 3) (gsNil)))) m_quarrels_of_f0)
  (sRet (eVar 1)))))
def m_name_of : FM := mF 3 (sRet (eDfl PySem.W.minD (eLc (iVal (e2 vIx (eVar 0) (eC (.int 3)))) (gTp 2 (gsCons (gNm 1) (gsCons (gNm 2) (gsNil)))) (tYesM) (eVar 2) [1, 2] frozen) (e2 vIx (eVar 0) (eC (.int 1)))))
@[simp] theorem ev_neg {m : EM} {l : Loc} {h : HM} : eNegM m l h = (m l h).bind fun v h1 => match v with | .int i => .ok (.int (-i)) h1 | _ => .bad := (rfl)
theorem ix_tupL {k : Val} {xs : List Val} {i : Int} {h : HM} (hk : tupL k = some xs) : vIx k (.int i) h = ofO (atI xs i) h := by
  cases k <;> first | (cases hk; done) | (cases hk; simp only [vIx])
theorem atI_last {α : Type} {xs : List α} {x : α} : atI (xs ++ [x]) (-1) = some x := by
  have h1 : ¬ (0 : Int) ≤ -1 := by omega
  have h2 : -(((xs ++ [x]).length : Nat) : Int) ≤ -1 := by simp; omega
  unfold L2.atI L2.ixN
  rw [if_neg h1, if_pos h2]
  have : ((-1 : Int) + ((xs ++ [x]).length : Nat)).toNat = xs.length := by simp; omega
  simp only [Option.bind_some, this]
  simp
theorem addT {xs ys : List Val} {h : HM} (hz : xs.length + ys.length ≤ 16777216) : vAdd (.tup xs) (.tup ys) h = .ok (.tup (xs ++ ys)) h := if_pos (by rw [sizeLine_eq]; exact hz)
theorem sorted_tup {α : Type} [DecidableEq α] [Enc α] {xs : List α} {h : HM} (hs : Sortable (xs.map (Datum.toD : α → PyData))) (hl : xs.length ≤ 1000000) (hd : Datum.depth α ≤ 50 := by decide) : bSortedT [.tup (xs.map Enc.enc)] h = .ok (.lst ((srt xs).map Enc.enc)) h := by
  have e : tupL (.tup (xs.map Enc.enc)) = some (xs.map Enc.enc) := rfl
  simp only [bSortedT, e, datFs_map, if_pos (canSort hs hl hd), sortV_enc]
theorem lenSet_lst {ws : List Str} {h : HM} (hl : ws.length ≤ 1000) : vLenSet (.lst (ws.map Val.str)) h = .ok (.int (uniq ws).length) h := by
  simp only [vLenSet, strsOf_map, if_pos hl]
@[simp] theorem ev_lenSet {m : EM} {l : Loc} {h : HM} : eLenSet m l h = (m l h).bind vLenSet := rfl
@[simp] theorem ev_eDfl {m : PyData → List PyData → PyData} {a d : EM} {l : Loc} {h : HM} : eDfl m a d l h = (a l h).bind fun x h1 => (d l h1).bind fun y h2 => vDfl m x y h2 := rfl
theorem enc_ofD {α : Type} [DecidableEq α] [Enc α] (a : α) : ofD (Datum.toD a) = Enc.enc a := (ofD_eq (Enc.noP a) (Enc.dat a)).symm
/-- the least of some words, d if there is none -/
def firstW (d : Str) (ws : List Str) : Str := match ws with
  | [] => d
  | y :: ys => minOf y ys
theorem dfl_str {d : Str} {ws : List Str} {h : HM} (ho : ∀ w ∈ ws, PyData.strOk w = true) : vDfl minD (.lst (ws.map Val.str)) (.str d) h = .ok (.str (firstW d ws)) h := by
  cases ws with
  | nil => rfl
  | cons y ys =>
    have e : datFs ((y :: ys).map Val.str) = some (Datum.toD y :: ys.map Datum.toD) := datFs_map (y :: ys)
    have al : AlikeAll (Datum.toD y :: ys.map Datum.toD) := alikeAll_datum (y :: ys)
    have sh : SeqAt.shaped (.list (Datum.toD y :: ys.map Datum.toD)) = true := sh_list (xs := y :: ys) ho (by decide)
    have np : noPs ((y :: ys).map Val.str) = true := noPs_map (y :: ys)
    have e0 : seqL (.lst ((y :: ys).map Val.str)) h = some ((y :: ys).map Val.str) := rfl
    simp only [vDfl, e0, e]
    rw [if_pos ⟨al, sh, np⟩, minD_map, enc_ofD]
    rfl
section
variable {α : Type} [DecidableEq α] [EncO α]
theorem minOf_mem : ∀ {ys : List α} {y : α}, minOf y ys ∈ y :: ys := by
  intro ys
  induction ys with
  | nil => intro y; exact List.mem_cons_self
  | cons z ys ih =>
    intro y
    show minOf (if DatumOrd.lt z y = true then z else y) ys ∈ _
    split
    · exact List.mem_cons_of_mem _ ih
    · rcases List.mem_cons.mp (ih (y := y)) with h | h
      · rw [h]; exact List.mem_cons_self
      · exact List.mem_cons_of_mem _ (List.mem_cons_of_mem _ h)
end
/-- words of two sorts -/
def two (ws : List Wd) : Bool := decide (1 < (uniq (ws.map (·.2))).length)
def nameF (f : Fl) : Str := firstW f.first (f.names.map (·.2))
def sName : Str := Str.ofString "name"
def sText : Str := Str.ofString "text"
def quarF (f : Fl) : List Str := if f.texts = [] then [] else (if two f.names = true then [sName] else []) ++ (if two f.texts = true then [sText] else [])
theorem sName_ok : PyData.strOk sName = true := by decide +kernel
theorem sText_ok : PyData.strOk sText = true := by decide +kernel
theorem words_str (xs : List Wd) : (xs.map fun p => Val.str p.2) = (xs.map (·.2)).map Val.str := by simp
theorem at_nameOf {f : Fl} {k : Val} {h : HM} (hn : okW f.names) (hl : f.names.length ≤ 1000) : m_name_of [eFk f k] h = .ok (.str (nameF f)) h := by
  have x1 : ∀ h, vIx (eFk f k) (.int 1) h = .ok (.str f.first) h := fun _ => rfl
  have x3 : ∀ h, vIx (eFk f k) (.int 3) h = .ok (.tup (f.names.map eW)) h := fun _ => rfl
  unfold m_name_of mF
  simp [x1, x3, srcOf]
  rw [lc_mapM (fun p => .str p.2) (fun p hp => ⟨_, rfl, by simp [wipeL]⟩) (by rw [sizeLine_eq]; omega)]
  simp only [Res.bind_ok, ev_frozen, words_str]
  rw [dfl_str (fun w hw => ?_)]
  · rfl
  · obtain ⟨p, hp, rfl⟩ := List.mem_map.mp hw
    exact hn p hp
theorem at_isGone {f : Fl} {k : Val} {h : HM} : m_is_gone [eFk f k] h = .ok (.bl (decide (f.texts = []))) h := by
  have x4 : ∀ h, vIx (eFk f k) (.int 4) h = .ok (.tup (f.texts.map eW)) h := fun _ => rfl
  unfold m_is_gone mF
  simp [x4]
theorem sorts_of {xs : List Wd} {l : Loc} {h : HM} {i a b c : Nat} {g : GM} (hl : xs.length ≤ 1000) (hg : ∀ p : Wd, ∃ l1, g (eW p) (wipeL l [b, c]) = some l1 ∧ eVar i l1 h = .ok (.str p.2) h) (ha : eVar a l h = .ok (.tup (xs.map eW)) h) :
    (eLenSet (eLc (iVal (eVar a)) g tYesM (eVar i) [b, c] frozen)) l h = .ok (.int (uniq (xs.map (·.2))).length) h := by
  simp only [ev_lenSet, ev_eLc, ev_iVal, ha, Res.bind_ok, srcOf]
  rw [lc_mapM (fun p => .str p.2) (fun p hp => hg p) (by rw [sizeLine_eq]; omega)]
  simp only [Res.bind_ok, ev_frozen, words_str]
  exact lenSet_lst (by simpa using hl)
theorem quar_f0 {a0 a4 a5 : Option Val} {fd : List Val} {w : Str} {xs : List Wd} {h : HM} (hl : xs.length ≤ 1000) (hf : fd.length ≤ 2) :
    m_quarrels_of_f0 [a0, some (.tup fd), some (.str w), some (.tup (xs.map eW)), a4, a5] h = .nx [a0, some (.tup (fd ++ if two xs = true then [.str w] else [])), some (.str w), some (.tup (xs.map eW)), a4, a5] h := by
  have add : ∀ (b : Val) h, vAdd (.tup fd) (.tup [b]) h = .ok (.tup (fd ++ [b])) h := fun b h => if_pos (by rw [sizeLine_eq]; simp; omega)
  have h1 : ∀ n : Nat, ((1 : Int) < (n : Int)) ↔ 1 < n := fun n => by omega
  unfold m_quarrels_of_f0
  simp only [ev_sIf, ev_tOf, ev_e2]
  rw [sorts_of (xs := xs) hl (fun p => ⟨_, rfl, by simp [wipeL]⟩) (by simp)]
  simp only [Res.bind_ok, ev_C, ev_gtI, ev_toB, Res.thn_ok, h1]
  unfold two
  by_cases q : 1 < (uniq (xs.map (·.2))).length <;> simp [q, add]
theorem at_quarrels {f : Fl} {k : Val} {h : HM} (hl : f.names.length ≤ 1000) (hl2 : f.texts.length ≤ 1000) : m_quarrels_of [eFk f k] h = .ok (.tup ((quarF f).map .str)) h := by
  have x3 : ∀ h, vIx (eFk f k) (.int 3) h = .ok (.tup (f.names.map eW)) h := fun _ => rfl
  have x4 : ∀ h, vIx (eFk f k) (.int 4) h = .ok (.tup (f.texts.map eW)) h := fun _ => rfl
  have e1 : Str.ofString "name" = sName := rfl
  have e2 : Str.ofString "text" = sText := rfl
  unfold m_quarrels_of mF
  rw [e1, e2]
  simp [at_isGone]
  by_cases ht : f.texts = []
  · simp [ht, quarF]
  · have b1 := fun (a0 a4 a5 : Option Val) h => quar_f0 (a0 := a0) (a4 := a4) (a5 := a5) (fd := []) (w := sName) (xs := f.names) (h := h) hl (by simp)
    have b2 := fun (a0 a4 a5 : Option Val) h => quar_f0 (a0 := a0) (a4 := a4) (a5 := a5) (fd := if two f.names = true then [.str sName] else []) (w := sText) (xs := f.texts) (h := h) hl2 (by split <;> simp)
    simp only [List.nil_append] at b1
    simp [ht, quarF, x3, x4, srcOf, srcItems, forL, b1, b2]
    cases two f.names <;> cases two f.texts <;> rfl
end
end MM
namespace MM
open PySem L2 PySem.W
end MM
namespace MM
open PySem L2 PySem.W
noncomputable section
def rightB (j : Nat) (v : Val) : Bool := if j = 0 then isName v else isText v
end
end MM
namespace MM
open PySem L2 PySem.W
noncomputable section
def Rg (m : Mk) : Prop := 0 ≤ m.1 ∧ m.1 ≤ 5 ∧ 1 ≤ m.2
/-- marked words as a file has them: kind j -/
structure Gw (j : Nat) (ks : List Mk) (xs : List Wd) : Prop where
  nd : (xs.map (·.1)).Nodup
  sd : Sd xs
  wi : ∀ p ∈ xs, within p.1 ks = true
  rg : ∀ p ∈ xs, Rg p.1
  ok : okW xs
  ri : ∀ p ∈ xs, rightB j (.str p.2) = true
structure Gk (ks : List Mk) : Prop where
  nd : (ks.map (·.1)).Nodup
  sd : Sd ks
  rg : ∀ m ∈ ks, Rg m
structure Gd (n : Nat) (f : Fl) : Prop where
  id : Rg f.id
  first : isName (.str f.first) = true
  fok : PyData.strOk f.first = true
  known : Gk f.known
  own : within f.id f.known = true
  names : Gw 0 f.known f.names
  texts : Gw 1 f.known f.texts
  ln : f.names.length ≤ n
  lt : f.texts.length ≤ n
theorem nd_fst {xs : List Wd} (h : (xs.map (·.1)).Nodup) : xs.Nodup := (List.pairwise_map.mp h).imp fun g e => g (congrArg Prod.fst e)
theorem fst_inj {xs : List Wd} (h : (xs.map (·.1)).Nodup) {p q : Wd} (hp : p ∈ xs) (hq : q ∈ xs) (e : p.1 = q.1) : p = q := by
  induction xs with
  | nil => cases hp
  | cons x xs ih =>
    rw [List.map_cons, List.nodup_cons] at h
    rcases List.mem_cons.mp hp with e1 | hp1 <;> rcases List.mem_cons.mp hq with e2 | hq1
    · rw [e1, e2]
    · subst e1
      exact absurd (List.mem_map.mpr ⟨q, hq1, e.symm⟩) h.1
    · subst e2
      exact absurd (List.mem_map.mpr ⟨p, hp1, e⟩) h.1
    · exact ih h.2 hp1 hq1
theorem nd_of_inj {xs : List Wd} (h : xs.Nodup) (hi : ∀ p ∈ xs, ∀ q ∈ xs, p.1 = q.1 → p = q) : (xs.map (·.1)).Nodup := by
  rw [List.Nodup, List.pairwise_map]
  exact List.Pairwise.imp_of_mem (fun {a b} ha hb hne e => hne (hi a ha b hb e)) h
/-- six houses at most -/
theorem range_len : ∀ (n : Nat) (xs : List Int), xs.Nodup → (∀ x ∈ xs, 0 ≤ x ∧ x < (n : Int)) → xs.length ≤ n := by
  intro n xs hn hx
  have : (xs.map Int.toNat).Nodup := by
    rw [List.Nodup, List.pairwise_map]
    exact List.Pairwise.imp_of_mem (fun {a b} ha hb hne e => hne (by have := hx a ha; have := hx b hb; omega)) hn
  have h2 := List.Nodup.length_le_of_subset (l₂ := List.range n) this (fun y hy => by
    obtain ⟨x, h1, rfl⟩ := List.mem_map.mp hy
    have := hx x h1
    rw [List.mem_range]; omega)
  simpa using h2
theorem Gk.len {ks : List Mk} (h : Gk ks) : ks.length ≤ 6 := by
  have := range_len 6 (ks.map (·.1)) h.nd fun x hx => by
    obtain ⟨m, hm, rfl⟩ := List.mem_map.mp hx
    have := h.rg m hm
    unfold Rg at this
    omega
  simpa using this
theorem Gk.pos {ks : List Mk} (h : Gk ks) : ∀ m ∈ ks, 0 < m.2 := fun m hm => by have := h.rg m hm; unfold Rg at this; omega
theorem Gw.wfw {j n : Nat} {ks : List Mk} {xs : List Wd} (h : Gw j ks xs) (hl : xs.length ≤ n) : Wfw n ks xs := ⟨nd_fst h.nd, h.sd, h.ok, h.wi, hl⟩
theorem Gd.wff {n : Nat} {f : Fl} (h : Gd n f) (hn : 6 ≤ n) : Wff f.id f.first n f := ⟨rfl, rfl, h.known.nd, h.known.pos, h.known.sd, Nat.le_trans h.known.len hn, h.names.wfw h.ln, h.texts.wfw h.lt⟩
theorem Gk.join {a b : List Mk} (ha : Gk a) (hb : Gk b) : Gk (srt (joinK a b)) := by
  refine ⟨keys_srt (joinK_keys ha.nd), srt_srt _, fun m hm => ?_⟩
  have hp := joinK_pos hb.pos ha.pos m (srt_mem.mp hm)
  have hw : within m (srt (joinK a b)) = true := ((mem_within (keys_srt (joinK_keys ha.nd))).mp hm).1
  rw [within_joinK ha.nd hb.pos, Bool.or_eq_true] at hw
  have key : ∀ ks : List Mk, Gk ks → within m ks = true → 0 ≤ m.1 ∧ m.1 ≤ 5 := fun ks hk hw => by
    unfold within at hw
    rw [List.any_eq_true] at hw
    obtain ⟨k, h1, h2⟩ := hw
    simp at h2
    have := hk.rg k h1
    unfold Rg at this
    omega
  unfold Rg
  rcases hw with hw | hw
  · have := key a ha hw; omega
  · have := key b hb hw; omega
theorem Gw.join {j : Nat} {a b : List Mk} {x y : List Wd} (ka : Gk a) (kb : Gk b) (hx : Gw j a x) (hy : Gw j b y) : Gw j (srt (joinK a b)) (srt (joinW x a y b)) := by
  have nd := joinW_nd (kx := a) (ky := b) (nd_fst hx.nd) (nd_fst hy.nd)
  have mem : ∀ p ∈ joinW x a y b, p ∈ x ∨ p ∈ y := fun p hp => by
    rcases mem_joinW.mp hp with h | h
    · exact .inl h.1
    · exact .inr h.1
  have inj : ∀ p ∈ joinW x a y b, ∀ q ∈ joinW x a y b, p.1 = q.1 → p = q := fun p hp q hq e => by
    have hp := mem_joinW.mp hp
    have hq := mem_joinW.mp hq
    by_cases px : p ∈ x
    · by_cases qx : q ∈ x
      · exact fst_inj hx.nd px qx e
      · have qy : q ∈ y := by rcases hq with h | h; exact absurd h.1 qx; exact h.1
        have : within q.1 a = false := by
          rcases hq with h | h
          · exact absurd h.1 qx
          · rcases h.2 with h | h
            · exact absurd h qx
            · exact h
        rw [← e, hx.wi p px] at this
        cases this
    · have py : p ∈ y := by rcases hp with h | h; exact absurd h.1 px; exact h.1
      by_cases qy : q ∈ y
      · exact fst_inj hy.nd py qy e
      · have qx : q ∈ x := by rcases hq with h | h; exact h.1; exact absurd h.1 qy
        have : within p.1 a = false := by
          rcases hp with h | h
          · exact absurd h.1 px
          · rcases h.2 with h | h
            · exact absurd h px
            · exact h
        rw [e, hx.wi q qx] at this
        cases this
  refine ⟨?_, srt_srt _, fun p hp => ?_, fun p hp => ?_, okW_srt (joinW_ok hx.ok hy.ok), fun p hp => ?_⟩
  · exact ((srt_perm _).map _).nodup_iff.mpr (nd_of_inj nd inj)
  · rw [within_joinK ka.nd kb.pos]
    rcases mem p (srt_mem.mp hp) with h | h
    · rw [hx.wi p h]; rfl
    · rw [hy.wi p h]; simp
  · rcases mem p (srt_mem.mp hp) with h | h
    · exact hx.rg p h
    · exact hy.rg p h
  · rcases mem p (srt_mem.mp hp) with h | h
    · exact hx.ri p h
    · exact hy.ri p h
theorem Gd.join {n m : Nat} {a b : Fl} (ha : Gd n a) (hb : Gd m b) : Gd (n + m) (joinF a b) := by
  have own : within a.id (srt (joinK a.known b.known)) = true := by rw [within_joinK ha.known.nd hb.known.pos, ha.own]; rfl
  refine ⟨ha.id, ha.first, ha.fok, ha.known.join hb.known, own, Gw.join ha.known hb.known ha.names hb.names, Gw.join ha.known hb.known ha.texts hb.texts, ?_, ?_⟩
  · show (srt _).length ≤ _
    rw [srt_len]
    have := joinW_len (x := a.names) (y := b.names) (kx := a.known) (ky := b.known)
    have := ha.ln; have := hb.ln; omega
  · show (srt _).length ≤ _
    rw [srt_len]
    have := joinW_len (x := a.texts) (y := b.texts) (kx := a.known) (ky := b.known)
    have := ha.lt; have := hb.lt; omega
instance : DecidableEq Fl := fun a b => decidable_of_decidable_of_iff (p := a.id = b.id ∧ a.first = b.first ∧ a.known = b.known ∧ a.names = b.names ∧ a.texts = b.texts) (by cases a; cases b; simp)
def datFl (f : Fl) : PyData := .tuple [Datum.toD f.id, .str f.first, .tuple (f.known.map Datum.toD), .tuple (f.names.map Datum.toD), .tuple (f.texts.map Datum.toD)]
theorem datF_tupL {v : Val} {xs : List Val} (e : tupL v = some xs) : datF v = (datFs xs).map .tuple := by
  cases v <;> first | (cases e; done) | (cases e; rfl)
theorem datF_file {f : Fl} {k : Val} (hk : tupL k = some (f.known.map eM)) : datF (eFk f k) = some (datFl f) := by
  have e1 : datF k = some (.tuple (f.known.map Datum.toD)) := by rw [datF_tupL hk, show f.known.map eM = f.known.map Enc.enc from rfl, datFs_map]; rfl
  have e2 : datF (.tup (f.names.map eW)) = some (.tuple (f.names.map Datum.toD)) := by rw [datF_tupL (xs := f.names.map eW) rfl, show f.names.map eW = f.names.map Enc.enc from rfl, datFs_map]; rfl
  have e3 : datF (.tup (f.texts.map eW)) = some (.tuple (f.texts.map Datum.toD)) := by rw [datF_tupL (xs := f.texts.map eW) rfl, show f.texts.map eW = f.texts.map Enc.enc from rfl, datFs_map]; rfl
  have e4 : datF (eM f.id) = some (Datum.toD f.id) := Enc.dat f.id
  have e5 : datF (.str f.first) = some (.str f.first) := rfl
  rw [datF_tupL (v := eFk f k) (xs := [eM f.id, .str f.first, k, .tup (f.names.map eW), .tup (f.texts.map eW)]) rfl]
  simp only [datFs, e1, e2, e3, e4, e5, datFl, Option.map_some]
theorem eqv_file (f g : Fl) : PyData.eqv (datFl f) (datFl g) = decide (f = g) := by
  have a := Datum.eqv f.id g.id
  have b := Datum.eqv (Tup.mk f.known) (Tup.mk g.known)
  have c := Datum.eqv (Tup.mk f.names) (Tup.mk g.names)
  have d := Datum.eqv (Tup.mk f.texts) (Tup.mk g.texts)
  have e := Datum.eqv f.first g.first
  have b' : PyData.eqv (.tuple (f.known.map Datum.toD)) (.tuple (g.known.map Datum.toD)) = decide (f.known = g.known) := b.trans (by by_cases h : f.known = g.known <;> simp [h])
  have c' : PyData.eqv (.tuple (f.names.map Datum.toD)) (.tuple (g.names.map Datum.toD)) = decide (f.names = g.names) := c.trans (by by_cases h : f.names = g.names <;> simp [h])
  have d' : PyData.eqv (.tuple (f.texts.map Datum.toD)) (.tuple (g.texts.map Datum.toD)) = decide (f.texts = g.texts) := d.trans (by by_cases h : f.texts = g.texts <;> simp [h])
  have e' : PyData.eqv (.str f.first) (.str g.first) = decide (f.first = g.first) := e
  show PyData.eqvAll _ _ = _
  simp only [PyData.eqvAll, a, b', c', d', e']
  cases f; cases g
  simp only [Fl.mk.injEq]
  rw [Bool.eq_iff_iff]
  simp
theorem shaped_file {n : Nat} {f : Fl} (h : Gd n f) : SeqAt.shaped (datFl f) = true := by
  have k1 := SeqAt.canLay_of_shaped (sh_tup (xs := f.known) (fun x _ => ⟨trivial, trivial⟩) (by decide))
  have k2 := SeqAt.canLay_of_shaped (sh_tup (xs := f.names) (okW_ok h.names.ok) (by decide))
  have k3 := SeqAt.canLay_of_shaped (sh_tup (xs := f.texts) (okW_ok h.texts.ok) (by decide))
  have d1 := PySem.W.depthAll_map f.known
  have d2 := PySem.W.depthAll_map f.names
  have d3 := PySem.W.depthAll_map f.texts
  have d4 := Datum.depth_le f.id
  have z1 : Datum.depth Mk ≤ 10 := by decide
  have z2 : Datum.depth Wd ≤ 10 := by decide
  have l4 : (Datum.toD f.id).canLay0 = true := Enc.lay f.id ⟨trivial, trivial⟩
  have l5 : (PyData.str f.first).canLay0 = true := h.fok
  unfold SeqAt.shaped datFl
  simp only [PyData.canLay0, PyData.canLayAll0, PyData.depth, PyData.depthAll] at *
  simp [k1, k2, k3, l4, l5]
  omega
theorem neFl {n m : Nat} {f g : Fl} {k j : Val} {h : HM} (hf : Gd n f) (hg : Gd m g) (hk : tupL k = some (f.known.map eM)) (hj : tupL j = some (g.known.map eM)) : vNe (eFk f k) (eFk g j) h = .ok (.bl (!decide (f = g))) h := by
  unfold vNe
  rw [dat_eq (datF_file hk), dat_eq (datF_file hj)]
  simp only [shaped_file hf, shaped_file hg, Bool.and_self, if_true, eqv_file]
end
end MM
namespace MM
open PySem L2 PySem.W
noncomputable section
theorem isName_lname (c : Int) : isName (.str (sg (lname c))) = true := by
  have h := lname_len c
  rw [isName_sg]
  simp only [h, and_self, decide_true, Bool.true_and, List.all_eq_true, decide_eq_true_eq]
  exact fun x hx => lname_mem hx
theorem isText_ltext (c : Int) : isText (.str (sg (ltext c))) = true := by
  rw [isText_sg]
  exact decide_eq_true (ltext_len c)
end
end MM
namespace MM
open PySem L2 PySem.W
noncomputable section
theorem addL2 {xs ys : List Val} {h : HM} (hz : xs.length + ys.length ≤ 16777216) : vAdd (.lst xs) (.lst ys) h = .ok (.lst (xs ++ ys)) h := by
  show (if _ then _ else _) = _
  rw [if_pos (by rw [sizeLine_eq]; exact hz)]
end
end MM
namespace MM
open PySem L2 PySem.W
noncomputable section
def m_House_init : FM := mF 2 (sSeq (sFldM 0 0 (eVar 0) (eVar 1))
  (sSeq (sFldM 0 1 (eVar 0) (eC (.int 0)))
  (sSeq (sFldM 0 2 (eVar 0) (eDictT))
  (sFldM 0 3 (eVar 0) (eDictK)))))
def m_House_ids : FM := mF 2 (sRet (eBi bTuple (aCons (eLc (iVal (eBi bSorted (aCons (eFld 0 2 (eVar 0)) (aNil)))) (gNm 1) (tNotM (tTru (eCall m_is_gone (aCons (e2 vIx (eFld 0 2 (eVar 0)) (eVar 1)) (aNil))))) (eVar 1) [1] frozen) (aNil))))
def m_House_gone : FM := mF 2 (sRet (eBi bTuple (aCons (eLc (iVal (eBi bSorted (aCons (eFld 0 2 (eVar 0)) (aNil)))) (gNm 1) (tTru (eCall m_is_gone (aCons (e2 vIx (eFld 0 2 (eVar 0)) (eVar 1)) (aNil)))) (eVar 1) [1] frozen) (aNil))))
def m_House_there : FM := mF 2 (sSeq (sIf (tOrM (tOf (e2 vNotIn (eVar 1) (eFld 0 2 (eVar 0)))) (tTru (eCall m_is_gone (aCons (e2 vIx (eFld 0 2 (eVar 0)) (eVar 1)) (aNil))))) (sRaise 1) (sNil))
  (sRet (e2 vIx (eFld 0 2 (eVar 0)) (eVar 1))))
def m_House_text_of : FM := mF 2 (sRet (e2 vIx (e2 vIx (e2 vIx (eMeth 0 m_House_there (eVar 0) (aCons (eVar 1) (aNil))) (eC (.int 4))) (eNegM (eC (.int 1)))) (eC (.int 1))))
def m_House_file : FM := mF 2 (sSeq (sIf (tOf (e2 vNotIn (eVar 1) (eFld 0 2 (eVar 0)))) (sRaise 1) (sNil))
  (sRet (e2 vIx (eFld 0 2 (eVar 0)) (eVar 1))))
def m_House_next_mark : FM := mF 1 (sSeq (sFldM 0 1 (eVar 0) (e2 vAdd (eFld 0 1 (eVar 0)) (eC (.int 1))))
  (sRet (eDisp mkTup (aCons (eFld 0 0 (eVar 0)) (aCons (eFld 0 1 (eVar 0)) (aNil))))))
def m_House_drop : FM := mF 3 (sSeq (sAsg (eMeth 0 m_House_there (eVar 0) (aCons (eVar 1) (aNil))) (gNm 2))
  (sSub (eFld 0 2 (eVar 0)) (eVar 1) (eDisp mkTup (aCons (eVar 1) (aCons (e2 vIx (eVar 2) (eC (.int 1))) (aCons (eCall s_known_together (aCons (e2 vIx (eVar 2) (eC (.int 2))) (aCons (eDisp mkTup (aCons (eMeth 0 m_House_next_mark (eVar 0) aNil) (aNil))) (aNil)))) (aCons (eDisp mkTup (aNil)) (aCons (eDisp mkTup (aNil)) (aNil)))))))))
def m_House_must_be_name : FM := mF 2 (sIf (tNotM (tTru (eCall m_is_name (aCons (eVar 1) (aNil))))) (sRaise 2) (sNil))
def m_House_must_be_text : FM := mF 2 (sIf (tNotM (tTru (eCall m_is_text (aCons (eVar 1) (aNil))))) (sRaise 3) (sNil))
def m_House_make : FM := mF 4 (sSeq (sDrop (eMeth 0 m_House_must_be_name (eVar 0) (aCons (eVar 1) (aNil))))
  (sSeq (sDrop (eMeth 0 m_House_must_be_text (eVar 0) (aCons (eVar 2) (aNil))))
  (sSeq (sAsg (eMeth 0 m_House_next_mark (eVar 0) aNil) (gNm 3))
  (sSeq (sSub (eFld 0 2 (eVar 0)) (eVar 3) (eDisp mkTup (aCons (eVar 3) (aCons (eVar 1) (aCons (eDisp mkTup (aCons (eVar 3) (aNil))) (aCons (eDisp mkTup (aNil)) (aCons (eDisp mkTup (aCons (eDisp mkTup (aCons (eVar 3) (aCons (eVar 2) (aNil)))) (aNil))) (aNil))))))))
  (sRet (eVar 3))))))
def m_House_write : FM := mF 5 (sSeq (sAsg (eMeth 0 m_House_there (eVar 0) (aCons (eVar 1) (aNil))) (gNm 3))
  (sSeq (sDrop (eMeth 0 m_House_must_be_text (eVar 0) (aCons (eVar 2) (aNil))))
  (sSeq (sAsg (eMeth 0 m_House_next_mark (eVar 0) aNil) (gNm 4))
  (sSub (eFld 0 2 (eVar 0)) (eVar 1) (eDisp mkTup (aCons (eVar 1) (aCons (e2 vIx (eVar 3) (eC (.int 1))) (aCons (eCall s_known_together (aCons (e2 vIx (eVar 3) (eC (.int 2))) (aCons (eDisp mkTup (aCons (eVar 4) (aNil))) (aNil)))) (aCons (e2 vIx (eVar 3) (eC (.int 3))) (aCons (eDisp mkTup (aCons (eDisp mkTup (aCons (eVar 4) (aCons (eVar 2) (aNil)))) (aNil))) (aNil)))))))))))
def m_House_rename : FM := mF 5 (sSeq (sAsg (eMeth 0 m_House_there (eVar 0) (aCons (eVar 1) (aNil))) (gNm 3))
  (sSeq (sDrop (eMeth 0 m_House_must_be_name (eVar 0) (aCons (eVar 2) (aNil))))
  (sSeq (sAsg (eMeth 0 m_House_next_mark (eVar 0) aNil) (gNm 4))
  (sSub (eFld 0 2 (eVar 0)) (eVar 1) (eDisp mkTup (aCons (eVar 1) (aCons (e2 vIx (eVar 3) (eC (.int 1))) (aCons (eCall s_known_together (aCons (e2 vIx (eVar 3) (eC (.int 2))) (aCons (eDisp mkTup (aCons (eVar 4) (aNil))) (aNil)))) (aCons (eDisp mkTup (aCons (eDisp mkTup (aCons (eVar 4) (aCons (eVar 2) (aNil)))) (aNil))) (aCons (e2 vIx (eVar 3) (eC (.int 4))) (aNil)))))))))))
def m_House_take : FM := mF 4 (sSeq (sAsg (e2 vIx (eVar 1) (eC (.int 0))) (gNm 2))
  (sSeq (sAsg (eGet2 (eFld 0 2 (eVar 0)) (eVar 2) (eC .non)) (gNm 3))
  (sSeq (sIf (tOf (e2 vIsNot (eVar 3) (eC .non))) (sAsg (eCall m_put_together (aCons (eVar 3) (aCons (eVar 1) (aNil)))) (gNm 1)) (sNil))
  (sSeq (sSub (eFld 0 2 (eVar 0)) (eVar 2) (eVar 1))
  (sRet (e2 vNe (eVar 1) (eVar 3)))))))
def m_House_heard : FM := mF 2 (sRet (eBi bTuple (aCons (eLc (iVal (eBi bSorted (aCons (eFld 0 2 (eVar 0)) (aNil)))) (gNm 1) (tYesM) (eDisp mkTup (aCons (eVar 1) (aCons (e2 vIx (e2 vIx (eFld 0 2 (eVar 0)) (eVar 1)) (eC (.int 2))) (aNil)))) [1] frozen) (aNil))))
section
variable {l : Loc} {h : HM}
@[simp] theorem ev_eMeth {c : Nat} {m : FM} {mo : EM} {as : AM} : eMeth c m mo as l h = (mo l h).bind fun o h1 => if isIns c o h1 = true then (as l h1).bind fun xs h2 => m (o :: xs) h2 else .bad := (rfl)
@[simp] theorem ev_eFld {c i : Nat} {mo : EM} : eFld c i mo l h = (mo l h).bind (getF c i) := (rfl)
@[simp] theorem ev_sFldM {c i : Nat} {mo mv : EM} : sFldM c i mo mv l h = (mv l h).thn l fun y h1 => (mo l h1).thn l fun o h2 => match setF c i o y h2 with
  | some h3 => .nx l h3
  | none => .bad := (rfl)
@[simp] theorem ev_sSub {mo mi mv : EM} : sSub mo mi mv l h = (mv l h).thn l fun y h1 => (mo l h1).thn l fun o h2 => (mi l h2).thn l fun i h3 => match setI o i y h3 with
  | some h4 => .nx l h4
  | none => .bad := (rfl)
@[simp] theorem ev_eMake {c : Nat} {m : FM} {as : AM} : eMake c m as l h = (as l h).bind fun xs h1 => (m (.ref h1.length :: xs) (h1 ++ [.ins c []])).bind fun v h2 => match v with
  | .non => .ok (.ref h1.length) h2
  | _ => .bad := (rfl)
@[simp] theorem ev_sRaise {c : Nat} : sRaise c l h = .exc c l h := (rfl)
@[simp] theorem ev_eDictT : eDictT l h = .ok (.ref h.length) (h ++ [.dT []]) := (rfl)
@[simp] theorem ev_eDictK : eDictK l h = .ok (.ref h.length) (h ++ [.dK []]) := (rfl)
end
def mKey (m : Mk) : List Key := [.inl m.1, .inl m.2]
theorem tkey_eM (m : Mk) : tkey (eM m) = some (mKey m) := rfl
theorem mKey_inj {m n : Mk} (h : mKey m = mKey n) : m = n := by
  unfold mKey at h
  simp only [List.cons.injEq, Sum.inl.injEq, and_true] at h
  exact Prod.ext h.1 h.2
section
variable {α : Type} {e : α → Val} {d : List (Mk × α)} {w : Mk} {a : α}
def kvM (e : α → Val) (d : List (Mk × α)) : List (List Key × Val) := d.map fun p => (mKey p.1, e p.2)
def getM (d : List (Mk × α)) (w : Mk) : Option α := (d.find? fun p => decide (p.1 = w)).map (·.2)
def hasM (d : List (Mk × α)) (w : Mk) : Bool := d.any fun p => decide (p.1 = w)
def puM (d : List (Mk × α)) (w : Mk) (a : α) : List (Mk × α) := if hasM d w = true then d.map (fun p => if p.1 = w then (p.1, a) else p) else d ++ [(w, a)]
theorem getK_kvM : getK (kvM e d) (mKey w) = (getM d w).map e := by
  unfold getK kvM getM
  induction d with
  | nil => rfl
  | cons p d ih =>
    simp only [List.map_cons, List.find?_cons]
    by_cases h : p.1 = w
    · simp [h]
    · have h' : ¬ mKey p.1 = mKey w := fun z => h (mKey_inj z)
      simp only [h, h', decide_false]
      exact ih
theorem putV_kvM : putV (kvM e d) (mKey w) (e a) = kvM e (puM d w a) := by
  have h1 : ((kvM e d).any fun kv => decide (kv.1 = mKey w)) = hasM d w := by
    unfold kvM hasM
    rw [List.any_map]
    congr 1
    funext p
    have : mKey p.1 = mKey w ↔ p.1 = w := ⟨mKey_inj, fun z => by rw [z]⟩
    simp [Function.comp, this]
  unfold putV puM
  rw [h1]
  by_cases h : hasM d w = true
  · rw [if_pos h, if_pos h]
    unfold kvM
    rw [List.map_map, List.map_map]
    apply List.map_congr_left
    intro p _
    simp only [Function.comp]
    by_cases q : p.1 = w
    · simp [q]
    · have q' : ¬ mKey p.1 = mKey w := fun z => q (mKey_inj z)
      simp [q, q']
  · rw [if_neg h, if_neg h]
    simp [kvM]
theorem kvM_len : (kvM e d).length = d.length := by simp [kvM]
theorem kvM_keys : (kvM e d).map (fun p => Val.tup (p.1.map keyV)) = (d.map (·.1)).map eM := by
  simp only [kvM, List.map_map]
  rfl
theorem dGet_M {h : HM} {n : Nat} (hn : h[n]? = some (.dT (kvM e d))) : dGet n (eM w) h = some ((getM d w).map e) := by
  unfold dGet
  simp only [hn, tkey_eM, Option.map_some, getK_kvM]
theorem hasM_get : hasM d w = (getM d w).isSome := by
  unfold hasM getM
  rw [Option.isSome_map, Bool.eq_iff_iff, List.any_eq_true, List.find?_isSome]
theorem vNotIn_M {h : HM} {n : Nat} (hn : h[n]? = some (.dT (kvM e d))) : vNotIn (eM w) (.ref n) h = .ok (.bl (!hasM d w)) h := by
  have : inB (eM w) (.ref n) h = some (hasM d w) := by
    unfold inB
    simp only [hn, dGet_M hn, hasM_get]
    simp
  unfold vNotIn
  rw [this]
theorem vIx_M {h : HM} {n : Nat} (hn : h[n]? = some (.dT (kvM e d))) (hg : getM d w = some a) : vIx (.ref n) (eM w) h = .ok (e a) h := by
  have h2 := dGet_M (w := w) hn
  rw [hg] at h2
  simp only [vIx, hn, h2]
  rfl
theorem setI_M {h : HM} {n : Nat} (hn : h[n]? = some (.dT (kvM e d))) (hl : d.length ≤ 1000) : setI (.ref n) (eM w) (e a) h = some (h.set n (.dT (kvM e (puM d w a)))) := by
  simp only [setI, hn, tkey_eM, Option.map_some, putV_kvM]
  rw [if_pos (by rw [kvM_len, sizeLine_eq]; omega)]
theorem getM_put {v : Mk} : getM (puM d w a) v = if v = w then some a else getM d v := by
  unfold puM
  by_cases h : hasM d w = true
  · rw [if_pos h]
    unfold getM hasM at *
    induction d with
    | nil => cases h
    | cons p d ih =>
      simp only [List.map_cons, List.find?_cons]
      by_cases q : p.1 = w
      · rw [if_pos q]
        by_cases r : v = w
        · subst r; simp [q]
        · have : ¬ p.1 = v := fun z => r (z.symm.trans q)
          simp only [this, decide_false, if_neg r]
          clear ih h
          induction d with
          | nil => rfl
          | cons p' d ih =>
            simp only [List.map_cons, List.find?_cons]
            by_cases q' : p'.1 = w
            · have : ¬ p'.1 = v := fun z => r (z.symm.trans q')
              simp only [if_pos q', this, decide_false]
              exact ih
            · simp only [if_neg q']
              by_cases s : p'.1 = v
              · simp [s]
              · simp only [s, decide_false]; exact ih
      · rw [if_neg q]
        by_cases r : p.1 = v
        · have : ¬ v = w := fun z => q (r.trans z)
          simp [r, this]
        · simp only [r, decide_false]
          exact ih (by simpa [q] using h)
  · rw [if_neg h]
    have h0 : getM d w = none := by
      cases e0 : getM d w with
      | none => rfl
      | some _ => rw [hasM_get, e0] at h; exact absurd rfl h
    unfold getM at *
    rw [List.find?_append]
    by_cases r : v = w
    · subst r
      simp only [Option.map_eq_none_iff] at h0
      simp [h0]
    · have : ¬ w = v := fun z => r z.symm
      simp [r, this]
theorem puM_keys : (puM d w a).map (·.1) = if hasM d w = true then d.map (·.1) else d.map (·.1) ++ [w] := by
  unfold puM
  split
  · rw [List.map_map]
    apply List.map_congr_left
    intro p _
    simp only [Function.comp]
    split <;> rfl
  · simp
theorem mem_keysM : w ∈ d.map (·.1) ↔ hasM d w = true := by simp [hasM]
theorem puM_nd (h : (d.map (·.1)).Nodup) : ((puM d w a).map (·.1)).Nodup := by
  rw [puM_keys]
  split
  · exact h
  · rename_i q
    rw [List.nodup_append]
    refine ⟨h, by simp, fun x hx y hy z => ?_⟩
    simp at hy
    subst hy z
    exact q (mem_keysM.mp hx)
theorem sorted_M {h : HM} {n : Nat} (hn : h[n]? = some (.dT (kvM e d))) (hl : d.length ≤ 1000000) : bSorted [.ref n] h = .ok (.lst ((srt (d.map (·.1))).map eM)) h := by
  have hk : (d.map (·.1)).length ≤ 1000000 := by simpa using hl
  have so := canSort (sortable_pair (d.map (·.1))) hk (by decide)
  have hd := datFs_map (d.map (·.1))
  have hs := sortV_enc (d.map (·.1))
  simp only [show (Enc.enc : Mk → Val) = eM from rfl] at hd hs
  simp only [bSorted, sortItems, hn, kvM_keys, hd, if_pos so, hs]
end
/-- how what is known stands: as it was handed in, or new -/
def kB (b : Bool) (ks : List Mk) : Val := if b = true then .ptup (ks.map eM) else .tup (ks.map eM)
theorem tupL_kB (b : Bool) (ks : List Mk) : tupL (kB b ks) = some (ks.map eM) := by cases b <;> rfl
def eB (p : Fl × Bool) : Val := eFk p.1 (kB p.2 p.1.known)
structure Hs where
  own : Int
  acts : Int
  shelf : List (Mk × (Fl × Bool))
def insH (n : Nat) (s : Hs) : Ob := .ins 0 [.int s.own, .int s.acts, .ref (n + 1), .ref (n + 2)]
structure HouseAt (h : HM) (n : Nat) (s : Hs) : Prop where
  ins : h[n]? = some (insH n s)
  sh : h[n + 1]? = some (.dT (kvM eB s.shelf))
def putH (h : HM) (n : Nat) (s : Hs) : HM := (h.set n (insH n s)).set (n + 1) (.dT (kvM eB s.shelf))
def newH (h : HM) (j : Int) : HM := h ++ [insH h.length ⟨j, 0, []⟩, .dT [], .dK []]
section
variable {h : HM} {n : Nat} {s s' : Hs} {w : Mk} {p : Fl × Bool} {j : Int}
theorem HouseAt.lt (H : HouseAt h n s) : n + 1 < h.length := (List.getElem?_eq_some_iff.mp H.sh).1
theorem putH_len : (putH h n s).length = h.length := by simp [putH]
theorem putH_get {k : Nat} (h1 : k ≠ n) (h2 : k ≠ n + 1) : (putH h n s)[k]? = h[k]? := by
  unfold putH
  rw [List.getElem?_set_ne (by omega), List.getElem?_set_ne (by omega)]
theorem HouseAt.put (H : HouseAt h n s) : HouseAt (putH h n s') n s' := by
  have := H.lt
  refine ⟨?_, ?_⟩
  · unfold putH
    rw [List.getElem?_set_ne (by omega), List.getElem?_set_self (by omega)]
  · unfold putH
    rw [List.getElem?_set_self (by simp; omega)]
theorem HouseAt.keep {k : Nat} {t : Hs} (H : HouseAt h k t) (h1 : k + 1 < n ∨ n + 1 < k) : HouseAt (putH h n s) k t := ⟨by rw [putH_get (by omega) (by omega)]; exact H.ins, by rw [putH_get (by omega) (by omega)]; exact H.sh⟩
theorem HouseAt.app {g : HM} (H : HouseAt h n s) : HouseAt (h ++ g) n s := by
  have := H.lt
  exact ⟨by rw [List.getElem?_append_left (by omega)]; exact H.ins, by rw [List.getElem?_append_left (by omega)]; exact H.sh⟩
theorem putH_put : putH (putH h n s) n s' = putH h n s' := by
  unfold putH
  apply List.ext_getElem?
  intro i
  simp only [List.getElem?_set, List.length_set]
  by_cases a : n + 1 = i <;> by_cases b : n = i <;> simp [a, b]
theorem set_same {o : Ob} (e : h[n]? = some o) : h.set n o = h := by
  apply List.ext_getElem?
  intro i
  rw [List.getElem?_set]
  split
  · rename_i q; subst q
    have := (List.getElem?_eq_some_iff.mp e).1
    rw [if_pos this, e]
  · rfl
theorem HouseAt.isI (H : HouseAt h n s) : isIns 0 (.ref n) h = true := by simp [isIns, H.ins, insH]
theorem HouseAt.f0 (H : HouseAt h n s) : getF 0 0 (.ref n) h = .ok (.int s.own) h := by simp [getF, H.ins, insH]
theorem HouseAt.f1 (H : HouseAt h n s) : getF 0 1 (.ref n) h = .ok (.int s.acts) h := by simp [getF, H.ins, insH]
theorem HouseAt.f2 (H : HouseAt h n s) : getF 0 2 (.ref n) h = .ok (.ref (n + 1)) h := by simp [getF, H.ins, insH]
theorem at_init {l0 : HM} : m_House_init [.ref h.length, .int j] (h ++ [.ins 0 []]) = .ok .non (newH h j) := by
  unfold m_House_init mF
  simp [setF, newH, insH]
theorem nx_var {i : Nat} {l : Loc} {h : HM} : (∃ v, eVar i l h = .ok v h) ∨ eVar i l h = .bad := by
  unfold eVar
  split
  · exact .inl ⟨_, rfl⟩
  · exact .inr rfl
theorem nx_fldM {c i k : Nat} {l : Loc} {h : HM} {mv : EM} (hv : (∃ v h', mv l h = .ok v h') ∨ mv l h = .bad) : (∃ h', sFldM c i (eVar k) mv l h = .nx l h') ∨ sFldM c i (eVar k) mv l h = .bad := by
  rw [ev_sFldM]
  rcases hv with ⟨v, h', e⟩ | e
  · rw [e, Res.thn_ok]
    rcases nx_var (i := k) (l := l) (h := h') with ⟨u, e1⟩ | e1
    · rw [e1, Res.thn_ok]
      split
      · exact .inl ⟨_, rfl⟩
      · exact .inr rfl
    · rw [e1]; exact .inr rfl
  · rw [e]; exact .inr rfl
theorem nx_House_init : ∀ xs h c h2, m_House_init xs h ≠ .exc c h2 := by
  intro xs h c h2 e
  unfold m_House_init mF at e
  generalize xs.map some ++ List.replicate (2 - xs.length) none = l at e
  simp only [ev_sSeq] at e
  rcases nx_fldM (c := 0) (i := 0) (k := 0) (l := l) (h := h) (mv := eVar 1) (nx_var.imp (fun ⟨v, q⟩ => ⟨v, _, q⟩) id) with ⟨h1, e1⟩ | e1
  · rw [e1] at e
    dsimp only at e
    rcases nx_fldM (c := 0) (i := 1) (k := 0) (l := l) (h := h1) (mv := eC (.int 0)) (.inl ⟨_, _, rfl⟩) with ⟨h2, e2⟩ | e2
    · rw [e2] at e
      dsimp only at e
      rcases nx_fldM (c := 0) (i := 2) (k := 0) (l := l) (h := h2) (mv := eDictT) (.inl ⟨_, _, rfl⟩) with ⟨h3, e3⟩ | e3
      · rw [e3] at e
        dsimp only at e
        rcases nx_fldM (c := 0) (i := 3) (k := 0) (l := l) (h := h3) (mv := eDictK) (.inl ⟨_, _, rfl⟩) with ⟨h4, e4⟩ | e4
        · rw [e4] at e; cases e
        · rw [e4] at e; cases e
      · rw [e3] at e; cases e
    · rw [e2] at e; cases e
  · rw [e1] at e; cases e
/-- the next mark -/
def Hs.mark (s : Hs) : Mk := (s.own, s.acts + 1)
def Hs.up (s : Hs) : Hs := ⟨s.own, s.acts + 1, s.shelf⟩
theorem at_next (H : HouseAt h n s) : m_House_next_mark [.ref n] h = .ok (eM s.mark) (putH h n s.up) := by
  have e : h.set n (insH n s.up) = putH h n s.up := by
    unfold putH
    rw [set_same (n := n + 1)]
    have := H.lt
    rw [List.getElem?_set_ne (by omega)]
    exact H.sh
  have e1 : setF 0 1 (.ref n) (.int (s.acts + 1)) h = some (putH h n s.up) := by
    rw [← e]
    simp [setF, H.ins, insH, Hs.up]
  have H' : HouseAt (putH h n s.up) n s.up := H.put
  unfold m_House_next_mark mF
  simp [H.f1, e1, H'.f0, H'.f1]
  rfl
theorem must_name {v : Val} (hv : ∀ h, m_is_name [v] h = .ok (.bl true) h) : m_House_must_be_name [.ref n, v] h = .ok .non h := by
  unfold m_House_must_be_name mF
  simp [hv]
theorem must_text {v : Val} (hv : ∀ h, m_is_text [v] h = .ok (.bl true) h) : m_House_must_be_text [.ref n, v] h = .ok .non h := by
  unfold m_House_must_be_text mF
  simp [hv]
theorem at_isGoneB {h : HM} : m_is_gone [eB p] h = .ok (.bl (decide (p.1.texts = []))) h := at_isGone
theorem at_there (H : HouseAt h n s) (hg : getM s.shelf w = some p) (ht : p.1.texts ≠ []) : m_House_there [.ref n, eM w] h = .ok (eB p) h := by
  have hm : hasM s.shelf w = true := by rw [hasM_get, hg]; rfl
  unfold m_House_there mF
  simp [H.f2, vNotIn_M H.sh, vIx_M H.sh hg, hm, at_isGoneB, ht]
theorem at_hfile (H : HouseAt h n s) (hg : getM s.shelf w = some p) : m_House_file [.ref n, eM w] h = .ok (eB p) h := by
  have hm : hasM s.shelf w = true := by rw [hasM_get, hg]; rfl
  unfold m_House_file mF
  simp [H.f2, vNotIn_M H.sh, vIx_M H.sh hg, hm]
def Hs.putF (s : Hs) (F : Fl) (b : Bool) : Hs := ⟨s.own, s.acts, puM s.shelf F.id (F, b)⟩
theorem set_putF (H : HouseAt h n s) {F : Fl} {b : Bool} (hl : s.shelf.length ≤ 1000) : setI (.ref (n + 1)) (eM F.id) (eB (F, b)) h = some (putH h n (s.putF F b)) := by
  rw [setI_M H.sh hl]
  have : h.set n (insH n (s.putF F b)) = h := set_same H.ins
  unfold putH
  rw [this]
  rfl
def makeF (m : Mk) (x y : Str) : Fl := ⟨m, x, [m], [], [(m, y)]⟩
theorem at_make (H : HouseAt h n s) {x y : Str} (hx : isName (.str x) = true) (hy : isText (.str y) = true) (lx : x.length ≤ 1000000) (ly : y.length ≤ 1000000) (hl : s.shelf.length ≤ 1000) :
    m_House_make [.ref n, .str x, .str y] h = .ok (eM s.mark) (putH h n (s.up.putF (makeF s.mark x y) false)) := by
  have a1 : ∀ h, m_is_name [.str x] h = .ok (.bl true) h := fun h => by rw [at_isName (by simp [isAsk, tyN, sizeLine_eq]; omega), hx]
  have a2 : ∀ h, m_is_text [.str y] h = .ok (.bl true) h := fun h => by rw [at_isText (by simp [isAsk, tyN, sizeLine_eq]; omega), hy]
  have H' : HouseAt (putH h n s.up) n s.up := H.put
  have e := set_putF H' (F := makeF s.mark x y) (b := false) hl
  rw [putH_put] at e
  have e' : setI (.ref (n + 1)) (eM s.mark) (.tup [eM s.mark, .str x, .tup [eM s.mark], .tup [], .tup [.tup [eM s.mark, .str y]]]) (putH h n s.up) = some (putH h n (s.up.putF (makeF s.mark x y) false)) := e
  unfold m_House_make mF
  simp [H.isI, must_name a1, must_text a2, at_next H, H'.f2, e']
def writeF (f : Fl) (m : Mk) (y : Str) : Fl := ⟨f.id, f.first, srt (joinK f.known [m]), f.names, [(m, y)]⟩
def renameF (f : Fl) (m : Mk) (x : Str) : Fl := ⟨f.id, f.first, srt (joinK f.known [m]), [(m, x)], f.texts⟩
def dropF (f : Fl) (m : Mk) : Fl := ⟨f.id, f.first, srt (joinK f.known [m]), [], []⟩
theorem ixB1 {h : HM} : vIx (eB p) (.int 1) h = .ok (.str p.1.first) h := rfl
theorem ixB2 {h : HM} : vIx (eB p) (.int 2) h = .ok (kB p.2 p.1.known) h := rfl
theorem ixB3 {h : HM} : vIx (eB p) (.int 3) h = .ok (.tup (p.1.names.map eW)) h := rfl
theorem ixB4 {h : HM} : vIx (eB p) (.int 4) h = .ok (.tup (p.1.texts.map eW)) h := rfl
theorem known_more {h : HM} {m : Mk} (nd : (p.1.known.map (·.1)).Nodup) (lk : p.1.known.length ≤ 1000) : s_known_together [kB p.2 p.1.known, .tup [eM m]] h = .ok (.tup ((srt (joinK p.1.known [m])).map eM)) h :=
  knownT_ok (b := [m]) (tupL_kB _ _) rfl nd lk (by simp)
theorem at_write (H : HouseAt h n s) (hg : getM s.shelf w = some p) (hi : p.1.id = w) (ht : p.1.texts ≠ []) {y : Str} (hy : isText (.str y) = true) (ly : y.length ≤ 1000000) (nd : (p.1.known.map (·.1)).Nodup) (lk : p.1.known.length ≤ 1000) (hl : s.shelf.length ≤ 1000) :
    m_House_write [.ref n, eM w, .str y] h = .ok .non (putH h n (s.up.putF (writeF p.1 s.mark y) false)) := by
  subst hi
  have a2 : ∀ h, m_is_text [.str y] h = .ok (.bl true) h := fun h => by rw [at_isText (by simp [isAsk, tyN, sizeLine_eq]; omega), hy]
  have H' : HouseAt (putH h n s.up) n s.up := H.put
  have e := set_putF H' (F := writeF p.1 s.mark y) (b := false) hl
  rw [putH_put] at e
  have e' : setI (.ref (n + 1)) (eM p.1.id) (.tup [eM p.1.id, .str p.1.first, .tup ((srt (joinK p.1.known [s.mark])).map eM), .tup (p.1.names.map eW), .tup [.tup [eM s.mark, .str y]]]) (putH h n s.up) = some (putH h n (s.up.putF (writeF p.1 s.mark y) false)) := e
  unfold m_House_write mF
  simp [H.isI, at_there H hg ht, must_text a2, at_next H, H'.f2, ixB1, ixB2, ixB3, known_more nd lk, e']
theorem at_rename (H : HouseAt h n s) (hg : getM s.shelf w = some p) (hi : p.1.id = w) (ht : p.1.texts ≠ []) {x : Str} (hx : isName (.str x) = true) (lx : x.length ≤ 1000000) (nd : (p.1.known.map (·.1)).Nodup) (lk : p.1.known.length ≤ 1000) (hl : s.shelf.length ≤ 1000) :
    m_House_rename [.ref n, eM w, .str x] h = .ok .non (putH h n (s.up.putF (renameF p.1 s.mark x) false)) := by
  subst hi
  have a1 : ∀ h, m_is_name [.str x] h = .ok (.bl true) h := fun h => by rw [at_isName (by simp [isAsk, tyN, sizeLine_eq]; omega), hx]
  have H' : HouseAt (putH h n s.up) n s.up := H.put
  have e := set_putF H' (F := renameF p.1 s.mark x) (b := false) hl
  rw [putH_put] at e
  have e' : setI (.ref (n + 1)) (eM p.1.id) (.tup [eM p.1.id, .str p.1.first, .tup ((srt (joinK p.1.known [s.mark])).map eM), .tup [.tup [eM s.mark, .str x]], .tup (p.1.texts.map eW)]) (putH h n s.up) = some (putH h n (s.up.putF (renameF p.1 s.mark x) false)) := e
  unfold m_House_rename mF
  simp [H.isI, at_there H hg ht, must_name a1, at_next H, H'.f2, ixB1, ixB2, ixB4, known_more nd lk, e']
theorem at_drop (H : HouseAt h n s) (hg : getM s.shelf w = some p) (hi : p.1.id = w) (ht : p.1.texts ≠ []) (nd : (p.1.known.map (·.1)).Nodup) (lk : p.1.known.length ≤ 1000) (hl : s.shelf.length ≤ 1000) :
    m_House_drop [.ref n, eM w] h = .ok .non (putH h n (s.up.putF (dropF p.1 s.mark) false)) := by
  subst hi
  have H' : HouseAt (putH h n s.up) n s.up := H.put
  have e := set_putF H' (F := dropF p.1 s.mark) (b := false) hl
  rw [putH_put] at e
  have e' : setI (.ref (n + 1)) (eM p.1.id) (.tup [eM p.1.id, .str p.1.first, .tup ((srt (joinK p.1.known [s.mark])).map eM), .tup [], .tup []]) (putH h n s.up) = some (putH h n (s.up.putF (dropF p.1 s.mark) false)) := e
  unfold m_House_drop mF
  simp [H.isI, at_there H hg ht, at_next H, H'.f2, ixB1, ixB2, known_more nd lk, e']
theorem at_textOf (H : HouseAt h n s) (hg : getM s.shelf w = some p) {t : List Wd} {q : Wd} (ht : p.1.texts = t ++ [q]) : m_House_text_of [.ref n, eM w] h = .ok (.str q.2) h := by
  have hne : p.1.texts ≠ [] := by rw [ht]; simp
  have e : vIx (.tup (p.1.texts.map eW)) (.int (-1)) h = .ok (eW q) h := by
    rw [ix_tupL rfl, ht, List.map_append]
    show ofO (atI (List.map eW t ++ [eW q]) (-1)) h = _
    rw [atI_last]; rfl
  have e1 : vIx (eW q) (.int 1) h = .ok (.str q.2) h := rfl
  unfold m_House_text_of mF
  simp [H.isI, at_there H hg hne, ixB4, e, e1]
/-- the ids that live, those that are gone: rising -/
def Hs.dead (s : Hs) (w : Mk) : Bool := match getM s.shelf w with
  | some p => decide (p.1.texts = [])
  | none => false
theorem get_of_key (hw : w ∈ srt (s.shelf.map (·.1))) : ∃ p, getM s.shelf w = some p := by
  have := mem_keysM.mp (srt_mem.mp hw)
  rw [hasM_get, Option.isSome_iff_exists] at this
  exact this
theorem at_ids (H : HouseAt h n s) (hl : s.shelf.length ≤ 1000) : m_House_ids [.ref n] h = .ok (.tup (((srt (s.shelf.map (·.1))).filter fun w => !s.dead w).map eM)) h := by
  have lk : (srt (s.shelf.map (·.1))).length ≤ 1000 := by rw [srt_len]; simpa using hl
  unfold m_House_ids mF
  simp [H.f2, sorted_M H.sh (by omega : s.shelf.length ≤ 1000000), srcOf]
  rw [lc_filterM (fun w => !s.dead w) eM (fun w hw => ⟨_, rfl, by
    obtain ⟨p, hp⟩ := get_of_key hw
    simp [wipeL, H.f2, vIx_M H.sh hp, at_isGoneB, Hs.dead, hp], fun _ => by simp [wipeL]⟩) (by rw [sizeLine_eq]; omega)]
  rfl
theorem at_gone (H : HouseAt h n s) (hl : s.shelf.length ≤ 1000) : m_House_gone [.ref n] h = .ok (.tup (((srt (s.shelf.map (·.1))).filter fun w => s.dead w).map eM)) h := by
  have lk : (srt (s.shelf.map (·.1))).length ≤ 1000 := by rw [srt_len]; simpa using hl
  unfold m_House_gone mF
  simp [H.f2, sorted_M H.sh (by omega : s.shelf.length ≤ 1000000), srcOf]
  rw [lc_filterM (fun w => s.dead w) eM (fun w hw => ⟨_, rfl, by
    obtain ⟨p, hp⟩ := get_of_key hw
    simp [wipeL, H.f2, vIx_M H.sh hp, at_isGoneB, Hs.dead, hp], fun _ => by simp [wipeL]⟩) (by rw [sizeLine_eq]; omega)]
  rfl
def Hs.heardV (s : Hs) (w : Mk) : Val := match getM s.shelf w with
  | some p => .tup [eM w, kB p.2 p.1.known]
  | none => .non
theorem at_hheard (H : HouseAt h n s) (hl : s.shelf.length ≤ 1000) : m_House_heard [.ref n] h = .ok (.tup ((srt (s.shelf.map (·.1))).map s.heardV)) h := by
  have lk : (srt (s.shelf.map (·.1))).length ≤ 1000 := by rw [srt_len]; simpa using hl
  unfold m_House_heard mF
  simp [H.f2, sorted_M H.sh (by omega : s.shelf.length ≤ 1000000), srcOf]
  rw [lc_mapM s.heardV (fun w hw => ⟨_, rfl, by
    obtain ⟨p, hp⟩ := get_of_key hw
    simp [wipeL, H.f2, vIx_M H.sh hp, ixB2, Hs.heardV, hp]⟩) (by rw [sizeLine_eq]; omega)]
  rfl
end
end
end MM
namespace MM
open PySem L2 PySem.W
noncomputable section
section
variable {α : Type} {e : α → Val} {d : List (Mk × α)} {w : Mk} {a : α}
theorem getM_map {β : Type} {g : Mk → α → β} : getM (d.map fun p => (p.1, g p.1 p.2)) w = (getM d w).map (g w) := by
  unfold getM
  induction d with
  | nil => rfl
  | cons p d ih =>
    simp only [List.map_cons, List.find?_cons]
    by_cases h : p.1 = w
    · subst h; simp
    · simp only [h, decide_false]; exact ih
theorem puM_map {β : Type} {g : Mk → α → β} : puM (d.map fun p => (p.1, g p.1 p.2)) w (g w a) = (puM d w a).map fun p => (p.1, g p.1 p.2) := by
  have e1 : hasM (d.map fun p => (p.1, g p.1 p.2)) w = hasM d w := by unfold hasM; rw [List.any_map]; rfl
  unfold puM
  rw [e1]
  split
  · rw [List.map_map, List.map_map]
    apply List.map_congr_left
    intro p _
    simp only [Function.comp]
    by_cases h : p.1 = w
    · subst h; simp
    · simp [h]
  · simp
end
/-- the files, without how what is known stands -/
def fg (D : List (Mk × (Fl × Bool))) : List (Mk × Fl) := D.map fun p => (p.1, p.2.1)
theorem fg_get {D : List (Mk × (Fl × Bool))} {w : Mk} : getM (fg D) w = (getM D w).map (·.1) := getM_map (g := fun _ (q : Fl × Bool) => q.1)
theorem fg_put {D : List (Mk × (Fl × Bool))} {w : Mk} {F : Fl} {b : Bool} : fg (puM D w (F, b)) = puM (fg D) w F := (puM_map (g := fun _ (q : Fl × Bool) => q.1) (a := (F, b))).symm
theorem fg_keys {D : List (Mk × (Fl × Bool))} : (fg D).map (·.1) = D.map (·.1) := by simp [fg, Function.comp]
theorem fg_len {D : List (Mk × (Fl × Bool))} : (fg D).length = D.length := by simp [fg]
theorem fg_has {D : List (Mk × (Fl × Bool))} {w : Mk} : hasM (fg D) w = hasM D w := by unfold hasM fg; rw [List.any_map]; rfl
/-- a house with a number, a count, and these files -/
def HE (h : HM) (n : Nat) (own acts : Int) (E : List (Mk × Fl)) : Prop := ∃ D, fg D = E ∧ HouseAt h n ⟨own, acts, D⟩
/-- but for the house at n all stays -/
structure Fr (n : Nat) (h h' : HM) : Prop where
  len : h'.length = h.length
  get : ∀ k, k ≠ n → k ≠ n + 1 → h'[k]? = h[k]?
theorem putH_fr {h : HM} {n : Nat} {s : Hs} : Fr n h (putH h n s) := ⟨putH_len, fun k a b => putH_get a b⟩
def deadE (E : List (Mk × Fl)) (w : Mk) : Bool := match getM E w with
  | some f => decide (f.texts = [])
  | none => false
section
variable {h h' : HM} {n : Nat} {own acts : Int} {E : List (Mk × Fl)} {w : Mk} {f : Fl}
theorem HE.keep {k : Nat} (H : HE h k own acts E) (fr : Fr n h h') (h1 : k + 1 < n ∨ n + 1 < k) : HE h' k own acts E := by
  obtain ⟨D, e, q⟩ := H
  exact ⟨D, e, ⟨by rw [fr.get _ (by omega) (by omega)]; exact q.ins, by rw [fr.get _ (by omega) (by omega)]; exact q.sh⟩⟩
theorem HE.app {g : HM} (H : HE h n own acts E) : HE (h ++ g) n own acts E := by
  obtain ⟨D, e, q⟩ := H
  exact ⟨D, e, q.app⟩
theorem HE.set {k : Nat} {o : Ob} (H : HE h n own acts E) (h1 : k ≠ n) (h2 : k ≠ n + 1) : HE (h.set k o) n own acts E := by
  obtain ⟨D, e, q⟩ := H
  exact ⟨D, e, ⟨by rw [List.getElem?_set_ne (by omega)]; exact q.ins, by rw [List.getElem?_set_ne (by omega)]; exact q.sh⟩⟩
theorem HE.isI (H : HE h n own acts E) : isIns 0 (.ref n) h = true := by obtain ⟨D, e, q⟩ := H; exact q.isI
theorem HE.lt (H : HE h n own acts E) : n + 1 < h.length := by obtain ⟨D, e, q⟩ := H; exact q.lt
theorem he_file (H : HE h n own acts E) (hg : getM E w = some f) : ∃ b, m_House_file [.ref n, eM w] h = .ok (eB (f, b)) h := by
  obtain ⟨D, e, q⟩ := H
  subst e
  rw [fg_get] at hg
  cases e1 : getM D w with
  | none => rw [e1] at hg; cases hg
  | some p =>
    rw [e1] at hg
    obtain ⟨f', b⟩ := p
    cases hg
    exact ⟨b, at_hfile q e1⟩
theorem he_ids (H : HE h n own acts E) (hl : E.length ≤ 1000) : m_House_ids [.ref n] h = .ok (.tup (((srt (E.map (·.1))).filter fun w => !deadE E w).map eM)) h := by
  obtain ⟨D, e, q⟩ := H
  subst e
  rw [at_ids q (by rw [← fg_len]; exact hl), fg_keys]
  congr 4
  funext w
  simp only [Hs.dead, deadE, fg_get]
  cases getM D w <;> rfl
theorem he_gone (H : HE h n own acts E) (hl : E.length ≤ 1000) : m_House_gone [.ref n] h = .ok (.tup (((srt (E.map (·.1))).filter fun w => deadE E w).map eM)) h := by
  obtain ⟨D, e, q⟩ := H
  subst e
  rw [at_gone q (by rw [← fg_len]; exact hl), fg_keys]
  congr 4
  funext w
  simp only [Hs.dead, deadE, fg_get]
  cases getM D w <;> rfl
/-- what is told as heard: each id with what is known there -/
def heardB (E : List (Mk × Fl)) (b : Mk → Bool) (w : Mk) : Val := match getM E w with
  | some f => .tup [eM w, kB (b w) f.known]
  | none => .non
theorem he_heard (H : HE h n own acts E) (hl : E.length ≤ 1000) : ∃ b, m_House_heard [.ref n] h = .ok (.tup ((srt (E.map (·.1))).map (heardB E b))) h := by
  obtain ⟨D, e, q⟩ := H
  subst e
  refine ⟨fun w => match getM D w with | some p => p.2 | none => false, ?_⟩
  rw [at_hheard q (by rw [← fg_len]; exact hl), fg_keys]
  congr 3
  funext w
  simp only [Hs.heardV, heardB, fg_get]
  cases getM D w <;> rfl
theorem HE.made (j : Int) : HE (newH h j) h.length j 0 [] := by
  refine ⟨[], rfl, ?_, ?_⟩
  · unfold newH; simp
  · unfold newH; simp; rfl
theorem newH_len {j : Int} : (newH h j).length = h.length + 3 := by simp [newH]
theorem he_make (H : HE h n own acts E) {x y : Str} (hx : isName (.str x) = true) (hy : isText (.str y) = true) (lx : x.length ≤ 1000000) (ly : y.length ≤ 1000000) (hl : E.length ≤ 1000) :
    ∃ h', m_House_make [.ref n, .str x, .str y] h = .ok (eM (own, acts + 1)) h' ∧ HE h' n own (acts + 1) (puM E (own, acts + 1) (makeF (own, acts + 1) x y)) ∧ Fr n h h' := by
  obtain ⟨D, e, q⟩ := H
  subst e
  exact ⟨_, at_make q hx hy lx ly (by rw [← fg_len]; exact hl), ⟨_, fg_put, q.put⟩, putH_fr⟩
theorem get_fg {D : List (Mk × (Fl × Bool))} (hg : getM (fg D) w = some f) : ∃ b, getM D w = some (f, b) := by
  rw [fg_get] at hg
  cases e1 : getM D w with
  | none => rw [e1] at hg; cases hg
  | some p => rw [e1] at hg; obtain ⟨f', b⟩ := p; cases hg; exact ⟨b, rfl⟩
theorem he_write (H : HE h n own acts E) (hg : getM E w = some f) (hi : f.id = w) (ht : f.texts ≠ []) {y : Str} (hy : isText (.str y) = true) (ly : y.length ≤ 1000000) (nd : (f.known.map (·.1)).Nodup) (lk : f.known.length ≤ 1000) (hl : E.length ≤ 1000) :
    ∃ h', m_House_write [.ref n, eM w, .str y] h = .ok .non h' ∧ HE h' n own (acts + 1) (puM E w (writeF f (own, acts + 1) y)) ∧ Fr n h h' := by
  obtain ⟨D, e, q⟩ := H
  subst e
  obtain ⟨b, hb⟩ := get_fg hg
  refine ⟨_, at_write q hb hi ht hy ly nd lk (by rw [← fg_len]; exact hl), ⟨_, ?_, q.put⟩, putH_fr⟩
  subst hi
  exact fg_put
theorem he_rename (H : HE h n own acts E) (hg : getM E w = some f) (hi : f.id = w) (ht : f.texts ≠ []) {x : Str} (hx : isName (.str x) = true) (lx : x.length ≤ 1000000) (nd : (f.known.map (·.1)).Nodup) (lk : f.known.length ≤ 1000) (hl : E.length ≤ 1000) :
    ∃ h', m_House_rename [.ref n, eM w, .str x] h = .ok .non h' ∧ HE h' n own (acts + 1) (puM E w (renameF f (own, acts + 1) x)) ∧ Fr n h h' := by
  obtain ⟨D, e, q⟩ := H
  subst e
  obtain ⟨b, hb⟩ := get_fg hg
  refine ⟨_, at_rename q hb hi ht hx lx nd lk (by rw [← fg_len]; exact hl), ⟨_, ?_, q.put⟩, putH_fr⟩
  subst hi
  exact fg_put
theorem he_drop (H : HE h n own acts E) (hg : getM E w = some f) (hi : f.id = w) (ht : f.texts ≠ []) (nd : (f.known.map (·.1)).Nodup) (lk : f.known.length ≤ 1000) (hl : E.length ≤ 1000) :
    ∃ h', m_House_drop [.ref n, eM w] h = .ok .non h' ∧ HE h' n own (acts + 1) (puM E w (dropF f (own, acts + 1))) ∧ Fr n h h' := by
  obtain ⟨D, e, q⟩ := H
  subst e
  obtain ⟨b, hb⟩ := get_fg hg
  refine ⟨_, at_drop q hb hi ht nd lk (by rw [← fg_len]; exact hl), ⟨_, ?_, q.put⟩, putH_fr⟩
  subst hi
  exact fg_put
theorem he_textOf (H : HE h n own acts E) (hg : getM E w = some f) {t : List Wd} {q : Wd} (ht : f.texts = t ++ [q]) : m_House_text_of [.ref n, eM w] h = .ok (.str q.2) h := by
  obtain ⟨D, e, z⟩ := H
  subst e
  obtain ⟨b, hb⟩ := get_fg hg
  exact at_textOf z hb ht
theorem isNot_file {k : Val} {h : HM} : vIsNot (eFk f k) .non h = .ok (.bl true) h := (rfl)
theorem isNot_non {h : HM} : vIsNot .non .non h = .ok (.bl false) h := (rfl)
theorem ne_non {k : Nat} {b : Bool} {h : HM} (g : Gd k f) : vNe (eB (f, b)) .non h = .ok (.bl true) h := by
  have e : dat .non h = some .none := (rfl)
  have e1 : PyData.eqv (datFl f) .none = false := (rfl)
  have e2 : SeqAt.shaped .none = true := by decide
  unfold vNe
  rw [dat_eq (show datF (eB (f, b)) = _ from datF_file (tupL_kB _ _)), e]
  simp only [shaped_file g, e2, Bool.and_self, if_true, e1]
  rfl
theorem take_new {k : Nat} {b : Bool} (H : HE h n own acts E) (hg : getM E f.id = none) (g : Gd k f) (hl : E.length ≤ 999) :
    ∃ h', m_House_take [.ref n, eB (f, b)] h = .ok (.bl true) h' ∧ HE h' n own acts (puM E f.id f) ∧ Fr n h h' := by
  obtain ⟨D, e, q⟩ := H
  subst e
  have hl2 : D.length ≤ 999 := by rw [← fg_len]; exact hl
  have hg2 : getM D f.id = none := by
    rw [fg_get] at hg
    cases e : getM D f.id with
    | none => rfl
    | some p => rw [e] at hg; cases hg
  have e1 : dGet (n + 1) (eM f.id) h = some none := by rw [dGet_M q.sh, hg2]; rfl
  have e2 : isDict (n + 1) h = true := by unfold isDict; rw [q.sh]
  have e3 : setI (.ref (n + 1)) (eM f.id) (eB (f, b)) h = some (putH h n ((Hs.mk own acts D).putF f b)) := set_putF q (F := f) (b := b) (by show D.length ≤ 1000; omega)
  have i0 : vIx (eB (f, b)) (.int 0) h = .ok (eM f.id) h := rfl
  refine ⟨putH h n ((Hs.mk own acts D).putF f b), ?_, ⟨_, fg_put (b := b), q.put⟩, putH_fr⟩
  unfold m_House_take mF
  simp [i0, q.f2, e1, e2, isNot_non, e3, ne_non g]
theorem take_old {k m : Nat} {b : Bool} {F : Fl} (H : HE h n own acts E) (hg : getM E f.id = some F) (hi : F.id = f.id) (gF : Gd m F) (hw : Wff f.id F.first k f) (hk : k ≤ 400) (hm : 6 ≤ m) (hm2 : m ≤ 400) (gj : Gd 1000 (joinF F f)) (hl : E.length ≤ 999) :
    ∃ h', m_House_take [.ref n, eB (f, b)] h = .ok (.bl (!decide (joinF F f = F))) h' ∧ HE h' n own acts (puM E f.id (joinF F f)) ∧ Fr n h h' := by
  obtain ⟨D, e, q⟩ := H
  subst e
  have hl2 : D.length ≤ 999 := by rw [← fg_len]; exact hl
  obtain ⟨c, hg2⟩ := get_fg hg
  have e1 : dGet (n + 1) (eM f.id) h = some (some (eB (F, c))) := by rw [dGet_M q.sh, hg2]; rfl
  have e2 : isDict (n + 1) h = true := by unfold isDict; rw [q.sh]
  have ej : (joinF F f).id = f.id := hi
  have e3 : setI (.ref (n + 1)) (eM f.id) (eB (joinF F f, false)) h = some (putH h n ((Hs.mk own acts D).putF (joinF F f) false)) := by
    rw [← ej]
    exact set_putF q (F := joinF F f) (b := false) (by show D.length ≤ 1000; omega)
  have i0 : vIx (eB (f, b)) (.int 0) h = .ok (eM f.id) h := rfl
  have wF := gF.wff hm
  rw [hi] at wF
  have pt : m_put_together [eB (F, c), eB (f, b)] h = .ok (eB (joinF F f, false)) h := at_putT wF hw (by omega) (by omega) (tupL_kB _ _) (tupL_kB _ _)
  have nn : vIsNot (eB (F, c)) .non h = .ok (.bl true) h := isNot_file
  have ne : ∀ h, vNe (eB (joinF F f, false)) (eB (F, c)) h = .ok (.bl (!decide (joinF F f = F))) h := fun h => neFl gj gF (tupL_kB _ _) (tupL_kB _ _)
  refine ⟨putH h n ((Hs.mk own acts D).putF (joinF F f) false), ?_, ⟨puM D f.id (joinF F f, false), fg_put, ?_⟩, putH_fr⟩
  · unfold m_House_take mF
    simp [i0, q.f2, e1, e2, nn, pt, e3, ne]
  · have := q.put (s' := (Hs.mk own acts D).putF (joinF F f) false)
    unfold Hs.putF at this
    rw [ej] at this
    simpa [Hs.putF, ej] using this
end
end
end MM
namespace MM
open PySem L2 PySem.W
noncomputable section
theorem same_map {α : Type} {l : List α} {f g : α → Val} (h : ∀ w ∈ l, sameB (f w) (g w) = true) : sameBs (l.map f) (l.map g) = true := by
  induction l with
  | nil => simp [sameBs]
  | cons x l ih =>
    simp only [List.map_cons, sameBs, h x List.mem_cons_self, ih fun w hw => h w (List.mem_cons_of_mem _ hw), Bool.and_self]
theorem same_marks (ks : List Mk) (hl : ks.length ≤ 1000000) (h : HM) : s_law_same [.tup (ks.map eM), .tup (ks.map eM)] h = .ok (.bl true) h := by
  have p := pl_tupL (d := 29) (k := .tup (ks.map eM)) rfl (by simpa using hl) (pl_mks ks)
  rw [same_ok p p, sameB_tup rfl rfl, same_mks]
theorem same_str (a : Str) (ho : PyData.strOk a = true) (h : HM) : s_law_same [.str a, .str a] h = .ok (.bl true) h := by rw [same_ok (by simp [pl, ho]) (by simp [pl, ho])]; simp [sameB]
theorem Gd.mono {n m : Nat} {f : Fl} (g : Gd n f) (h : n ≤ m) : Gd m f := ⟨g.id, g.first, g.fok, g.known, g.own, g.names, g.texts, Nat.le_trans g.ln h, Nat.le_trans g.lt h⟩
theorem Wfw.mono {n m : Nat} {ks : List Mk} {xs : List Wd} (g : Wfw n ks xs) (h : n ≤ m) : Wfw m ks xs := ⟨g.nd, g.sd, g.ok, g.wi, Nat.le_trans g.len h⟩
theorem Wff.mono {w : Mk} {x : Str} {n m : Nat} {f : Fl} (g : Wff w x n f) (h : n ≤ m) : Wff w x m f := ⟨g.id, g.first, g.nd, g.pos, g.sd, Nat.le_trans g.len h, g.names.mono h, g.texts.mono h⟩
theorem Gd.wff6 {n : Nat} {f : Fl} (g : Gd n f) : Wff f.id f.first (n + 6) f := (g.mono (by omega : n ≤ n + 6)).wff (by omega)
theorem pl_fileG {n d : Nat} {F : Fl} {b : Bool} (g : Gd n F) (hn : n ≤ 900) : pl (d + 4) (eB (F, b)) = true := pl_file g.wff6 (by omega) g.fok (tupL_kB _ _)
theorem sameB_fileG {F : Fl} {b c : Bool} : sameB (eB (F, b)) (eB (F, c)) = true := sameB_file (tupL_kB _ _) (tupL_kB _ _)
theorem same_files {n : Nat} {F : Fl} {b c : Bool} {h : HM} (g : Gd n F) (hn : n ≤ 900) : s_law_same [eB (F, b), eB (F, c)] h = .ok (.bl true) h := by
  rw [same_ok (pl_fileG (d := 26) g hn) (pl_fileG (d := 26) g hn), sameB_fileG]
@[simp] theorem ev_sLock {which : EM} {m : SM} {l : Loc} {h : HM} : sLock which m l h = match which l h with
  | .ok (.ref n) _ => (match h[n]? with
    | some o => (match lockO o with
      | some o' => (match m l (h.set n o') with
        | .nx l' h' => .nx l' (h'.set n o)
        | .rt v h' => .rt v (h'.set n o)
        | _ => .bad)
      | none => .bad)
    | none => .bad)
  | _ => .bad := (rfl)
end
end MM
namespace MM
open PySem L2 PySem.W
noncomputable section
inductive Kind where
  | make | write | rename | drop
deriving DecidableEq
/-- an act: its place in the book of all acts; the file; its mark; what was told; the places of the acts on this file that its house had heard of; the file's first name -/
structure Act where
  idx : Nat
  which : Mk
  mark : Mk
  kind : Kind
  what : Str
  past : List Nat
  first : Str
def Kind.tx : Kind → Bool
  | .make => true
  | .write => true
  | _ => false
def Kind.nm : Kind → Bool
  | .rename => true
  | _ => false
def Kind.offT : Kind → Bool
  | .write => true
  | .drop => true
  | _ => false
def Kind.offN : Kind → Bool
  | .rename => true
  | .drop => true
  | _ => false
/-- what stands after the acts of S on w: words of acts of a kind, that no act of a kind, which had heard of it, took away -/
def Stands (S : List Act) (w : Mk) (on off : Kind → Bool) (p : Wd) : Prop :=
  ∃ a ∈ S, a.which = w ∧ on a.kind = true ∧ p = (a.mark, a.what) ∧ ∀ b ∈ S, b.which = w → a.idx ∈ b.past → off b.kind = false
structure IsLeaf (S : List Act) (w : Mk) (F : Fl) : Prop where
  id : F.id = w
  first : ∀ a ∈ S, a.which = w → F.first = a.first
  known : ∀ p, within p F.known = true ↔ ∃ a ∈ S, a.which = w ∧ a.mark.1 = p.1 ∧ p.2 ≤ a.mark.2
  names : ∀ p, p ∈ F.names ↔ Stands S w Kind.nm Kind.offN p
  texts : ∀ p, p ∈ F.texts ↔ Stands S w Kind.tx Kind.offT p
/-- the book of all acts -/
structure OkA (A : List Act) : Prop where
  ix : ∀ (i : Nat) (a : Act), A[i]? = some a → a.idx = i
  mki : ∀ a ∈ A, ∀ b ∈ A, a.mark = b.mark → a = b
  same : ∀ a ∈ A, ∀ b ∈ A, a.which = b.which → a.mark.1 = b.mark.1 → a.mark.2 < b.mark.2 → a.idx ∈ b.past
  pst : ∀ b ∈ A, ∀ i ∈ b.past, ∃ a ∈ A, a.idx = i ∧ a.which = b.which ∧ ∀ j ∈ a.past, j ∈ b.past
  lt : ∀ b ∈ A, ∀ i ∈ b.past, i < b.idx
  first : ∀ a ∈ A, ∀ b ∈ A, a.which = b.which → a.first = b.first
  rg : ∀ a ∈ A, Rg a.mark
  rgw : ∀ a ∈ A, Rg a.which
  nm : ∀ a ∈ A, isName (.str a.first) = true ∧ PyData.strOk a.first = true
  wt : ∀ a ∈ A, PyData.strOk a.what = true
  wn : ∀ a ∈ A, a.kind.nm = true → isName (.str a.what) = true
  wx : ∀ a ∈ A, a.kind.tx = true → isText (.str a.what) = true
  made : ∀ a ∈ A, ∃ c ∈ A, c.mark = a.which ∧ c.which = a.which ∧ (c = a ∨ c.idx ∈ a.past)
/-- what a house heard of -/
structure Closed (A S : List Act) : Prop where
  sub : ∀ a ∈ S, a ∈ A
  cl : ∀ b ∈ S, ∀ a ∈ A, a.idx ∈ b.past → a ∈ S
  nd : (S.map (·.idx)).Nodup
section
variable {A S T : List Act} {w : Mk} {F G : Fl}
theorem OkA.inj (O : OkA A) {a b : Act} (ha : a ∈ A) (hb : b ∈ A) (e : a.idx = b.idx) : a = b := by
  obtain ⟨i, hi⟩ := List.getElem?_of_mem ha
  obtain ⟨j, hj⟩ := List.getElem?_of_mem hb
  have h1 := O.ix i a hi
  have h2 := O.ix j b hj
  have : i = j := by omega
  subst this
  rw [hi] at hj
  exact Option.some.inj hj
/-- an act was heard of, if its mark is within what is known -/
theorem IsLeaf.heard (O : OkA A) (C : Closed A T) (L : IsLeaf T w G) {a : Act} (ha : a ∈ A) (hw : a.which = w) : within a.mark G.known = true ↔ a ∈ T := by
  rw [L.known]
  constructor
  · rintro ⟨b, hb, h1, h2, h3⟩
    have hbA := C.sub b hb
    by_cases e : a.mark.2 = b.mark.2
    · have : a.mark = b.mark := Prod.ext h2.symm e
      rw [O.mki a ha b hbA this]; exact hb
    · exact C.cl b hb a ha (O.same a ha b hbA (hw.trans h1.symm) h2.symm (by omega))
  · intro h
    exact ⟨a, h, hw, rfl, Int.le_refl _⟩
theorem stands_join (O : OkA A) (CS : Closed A S) (CT : Closed A T) {on off : Kind → Bool} {x y : List Wd} {kx ky : List Mk}
    (hx : ∀ p, p ∈ x ↔ Stands S w on off p) (hy : ∀ p, p ∈ y ↔ Stands T w on off p) (kS : ∀ a ∈ A, a.which = w → (within a.mark kx = true ↔ a ∈ S)) (kT : ∀ a ∈ A, a.which = w → (within a.mark ky = true ↔ a ∈ T)) {U : List Act} (hU : ∀ a, a ∈ U ↔ a ∈ S ∨ a ∈ T) (p : Wd) :
    p ∈ srt (joinW x kx y ky) ↔ Stands U w on off p := by
  rw [srt_mem, mem_joinW, hx, hy]
  -- of an act: whether it stands
  have one : ∀ {X Y : List Act}, Closed A X → Closed A Y → ∀ {kY : List Mk}, (∀ a ∈ A, a.which = w → (within a.mark kY = true ↔ a ∈ Y)) → (∀ a, a ∈ U ↔ a ∈ X ∨ a ∈ Y) → Stands X w on off p → (Stands Y w on off p ∨ within p.1 kY = false) → Stands U w on off p := by
    rintro X Y CX CY kY hk hU ⟨a, ha, hw, ho, rfl, hs⟩ h
    refine ⟨a, (hU a).mpr (.inl ha), hw, ho, rfl, fun b hb hbw hp => ?_⟩
    rcases (hU b).mp hb with hb | hb
    · exact hs b hb hbw hp
    · have haY : a ∈ Y := CY.cl b hb a (CX.sub a ha) hp
      rcases h with ⟨c, hc, _, _, e, hs2⟩ | h
      · have : a = c := O.mki a (CX.sub a ha) c (CY.sub c hc) (congrArg Prod.fst e)
        subst this
        exact hs2 b hb hbw hp
      · rw [(hk a (CX.sub a ha) hw).mpr haY] at h; cases h
  have two : ∀ {X Y : List Act}, Closed A X → ∀ {kY : List Mk}, (∀ a ∈ A, a.which = w → (within a.mark kY = true ↔ a ∈ Y)) → (∀ a, a ∈ U ↔ a ∈ X ∨ a ∈ Y) → (∃ a ∈ X, a.which = w ∧ on a.kind = true ∧ p = (a.mark, a.what) ∧ ∀ b ∈ U, b.which = w → a.idx ∈ b.past → off b.kind = false) → Stands X w on off p ∧ (Stands Y w on off p ∨ within p.1 kY = false) := by
    rintro X Y CX kY hk hU ⟨a, ha, hw, ho, rfl, hs⟩
    refine ⟨⟨a, ha, hw, ho, rfl, fun b hb => hs b ((hU b).mpr (.inl hb))⟩, ?_⟩
    cases e : within a.mark kY with
    | false => exact .inr rfl
    | true => exact .inl ⟨a, (hk a (CX.sub a ha) hw).mp e, hw, ho, rfl, fun b hb => hs b ((hU b).mpr (.inr hb))⟩
  have hU2 : ∀ a, a ∈ U ↔ a ∈ T ∨ a ∈ S := fun a => (hU a).trans Or.comm
  constructor
  · rintro (⟨h1, h2⟩ | ⟨h1, h2⟩)
    · exact one CS CT kT hU h1 h2
    · exact one CT CS kS hU2 h1 h2
  · rintro ⟨a, ha, hr⟩
    rcases (hU a).mp ha with h | h
    · exact .inl (two CS kT hU ⟨a, h, hr⟩)
    · exact .inr (two CT kS hU2 ⟨a, h, hr⟩)
/-- two houses' files put together: what the acts leave that either heard of -/
theorem IsLeaf.join {n m : Nat} (O : OkA A) (CS : Closed A S) (CT : Closed A T) (hF : IsLeaf S w F) (hG : IsLeaf T w G) (gF : Gd n F) (gG : Gd m G) {U : List Act} (hU : ∀ a, a ∈ U ↔ a ∈ S ∨ a ∈ T) (hT : ∃ a ∈ S, a.which = w) : IsLeaf U w (joinF F G) := by
  have kS := fun a ha hw => hF.heard (a := a) O CS ha hw
  have kT := fun a ha hw => hG.heard (a := a) O CT ha hw
  refine ⟨hF.id, fun a ha hw => ?_, fun p => ?_, fun p => stands_join O CS CT hF.names hG.names kS kT hU p, fun p => stands_join O CS CT hF.texts hG.texts kS kT hU p⟩
  · obtain ⟨c, hc, hcw⟩ := hT
    show F.first = _
    rw [hF.first c hc hcw]
    refine O.first c (CS.sub c hc) a ?_ (hcw.trans hw.symm)
    rcases (hU a).mp ha with h | h
    · exact CS.sub a h
    · exact CT.sub a h
  · show within p (srt (joinK F.known G.known)) = true ↔ _
    rw [within_joinK gF.known.nd gG.known.pos, Bool.or_eq_true, hF.known, hG.known]
    constructor
    · rintro (⟨a, h1, h2⟩ | ⟨a, h1, h2⟩)
      · exact ⟨a, (hU a).mpr (.inl h1), h2⟩
      · exact ⟨a, (hU a).mpr (.inr h1), h2⟩
    · rintro ⟨a, h1, h2⟩
      rcases (hU a).mp h1 with h | h
      · exact .inl ⟨a, h, h2⟩
      · exact .inr ⟨a, h, h2⟩
/-- there is but one -/
theorem IsLeaf.uniq {n m : Nat} (hF : IsLeaf S w F) (hG : IsLeaf T w G) (gF : Gd n F) (gG : Gd m G) (hS : ∀ a, a.which = w → (a ∈ S ↔ a ∈ T)) (hT : ∃ a ∈ S, a.which = w) : F = G := by
  have e4 : F.id = G.id := hF.id.trans hG.id.symm
  have e5 : F.first = G.first := by
    obtain ⟨c, hc, hcw⟩ := hT
    rw [hF.first c hc hcw, hG.first c ((hS c hcw).mp hc) hcw]
  have e1 : F.known = G.known := known_eq gF.known.nd gG.known.nd gF.known.sd gG.known.sd fun p => by
    rw [Bool.eq_iff_iff, hF.known, hG.known]
    constructor
    · rintro ⟨a, h1, h2, h3⟩; exact ⟨a, (hS a h2).mp h1, h2, h3⟩
    · rintro ⟨a, h1, h2, h3⟩; exact ⟨a, (hS a h2).mpr h1, h2, h3⟩
  have st : ∀ (on off : Kind → Bool) p, Stands S w on off p ↔ Stands T w on off p := fun on off p => by
    constructor
    · rintro ⟨a, h1, h2, h3, h4, h5⟩; exact ⟨a, (hS a h2).mp h1, h2, h3, h4, fun b hb hbw => h5 b ((hS b hbw).mpr hb) hbw⟩
    · rintro ⟨a, h1, h2, h3, h4, h5⟩; exact ⟨a, (hS a h2).mpr h1, h2, h3, h4, fun b hb hbw => h5 b ((hS b hbw).mp hb) hbw⟩
  have e2 : F.names = G.names := sd_eq gF.names.sd gG.names.sd (nd_fst gF.names.nd) (nd_fst gG.names.nd) fun p => by rw [hF.names, hG.names, st]
  have e3 : F.texts = G.texts := sd_eq gF.texts.sd gG.texts.sd (nd_fst gF.texts.nd) (nd_fst gG.texts.nd) fun p => by rw [hF.texts, hG.texts, st]
  cases F; cases G
  simp only at e1 e2 e3 e4 e5
  subst e1 e2 e3 e4 e5
  rfl
/-- no more words than acts -/
theorem stands_len {xs : List Wd} {on off : Kind → Bool} (nd : (xs.map (·.1)).Nodup) (C : ∀ a ∈ S, a ∈ A) (h : ∀ p, p ∈ xs ↔ Stands S w on off p) : xs.length ≤ A.length := by
  have : xs.map (·.1) ⊆ A.map (·.mark) := fun m hm => by
    obtain ⟨p, hp, rfl⟩ := List.mem_map.mp hm
    obtain ⟨a, ha, _, _, rfl, _⟩ := (h p).mp hp
    exact List.mem_map.mpr ⟨a, C a ha, rfl⟩
  have := List.Nodup.length_le_of_subset nd this
  simpa using this
theorem IsLeaf.cut {n : Nat} (C : Closed A S) (h : IsLeaf S w F) (g : Gd n F) : Gd A.length F := ⟨g.id, g.first, g.fok, g.known, g.own, g.names, g.texts, stands_len g.names.nd C.sub h.names, stands_len g.texts.nd C.sub h.texts⟩
end
end
end MM
namespace MM
open PySem L2 PySem.W
noncomputable section
/-- what an act more asks for -/
structure NewAct (A : List Act) (a : Act) : Prop where
  ix : a.idx = A.length
  mki : ∀ b ∈ A, b.mark.1 = a.mark.1 → b.mark.2 < a.mark.2
  same : ∀ b ∈ A, b.which = a.which → b.mark.1 = a.mark.1 → b.idx ∈ a.past
  pst : ∀ i ∈ a.past, ∃ b ∈ A, b.idx = i ∧ b.which = a.which ∧ ∀ j ∈ b.past, j ∈ a.past
  first : ∀ b ∈ A, b.which = a.which → b.first = a.first
  rg : Rg a.mark
  rgw : Rg a.which
  nm : isName (.str a.first) = true ∧ PyData.strOk a.first = true
  wt : PyData.strOk a.what = true
  wn : a.kind.nm = true → isName (.str a.what) = true
  wx : a.kind.tx = true → isText (.str a.what) = true
  made : a.mark = a.which ∨ ∃ c ∈ A, c.mark = a.which ∧ c.which = a.which ∧ c.idx ∈ a.past
section
variable {A S T : List Act} {w : Mk} {F G : Fl} {a : Act}
theorem OkA.idx_lt (O : OkA A) {b : Act} (hb : b ∈ A) : b.idx < A.length := by
  obtain ⟨i, hi⟩ := List.getElem?_of_mem hb
  rw [O.ix i b hi]
  exact (List.getElem?_eq_some_iff.mp hi).1
theorem mem_snoc {x : Act} : x ∈ A ++ [a] ↔ x ∈ A ∨ x = a := by simp
theorem OkA.new (O : OkA A) (N : NewAct A a) : OkA (A ++ [a]) := by
  have past_lt : ∀ i ∈ a.past, i < a.idx := fun i hi => by
    obtain ⟨b, hb, e, _⟩ := N.pst i hi
    have := O.idx_lt hb
    rw [N.ix]; omega
  refine ⟨fun i x hx => ?_, fun x hx y hy e => ?_, fun x hx y hy e1 e2 e3 => ?_, fun b hb i hi => ?_, fun b hb i hi => ?_, fun x hx y hy e => ?_, fun x hx => ?_, fun x hx => ?_, fun x hx => ?_, fun x hx => ?_, fun x hx => ?_, fun x hx => ?_, fun x hx => ?_⟩
  · by_cases hi : i < A.length
    · rw [List.getElem?_append_left hi] at hx; exact O.ix i x hx
    · rw [List.getElem?_append_right (by omega)] at hx
      have : i - A.length = 0 := by
        have := (List.getElem?_eq_some_iff.mp hx).1
        simp at this; omega
      rw [this] at hx
      simp at hx
      subst hx
      rw [N.ix]; omega
  · rcases mem_snoc.mp hx with h1 | h1 <;> rcases mem_snoc.mp hy with h2 | h2
    · exact O.mki x h1 y h2 e
    · subst h2; have := N.mki x h1 (congrArg Prod.fst e); rw [e] at this; omega
    · subst h1; have := N.mki y h2 (congrArg Prod.fst e.symm); rw [e] at this; omega
    · rw [h1, h2]
  · rcases mem_snoc.mp hx with h1 | h1 <;> rcases mem_snoc.mp hy with h2 | h2
    · exact O.same x h1 y h2 e1 e2 e3
    · subst h2; exact N.same x h1 e1 e2
    · subst h1; have := N.mki y h2 e2.symm; omega
    · rw [h1, h2] at e3; omega
  · rcases mem_snoc.mp hb with hb | rfl
    · obtain ⟨c, hc, r⟩ := O.pst b hb i hi
      exact ⟨c, mem_snoc.mpr (.inl hc), r⟩
    · obtain ⟨c, hc, r⟩ := N.pst i hi
      exact ⟨c, mem_snoc.mpr (.inl hc), r⟩
  · rcases mem_snoc.mp hb with hb | rfl
    · exact O.lt b hb i hi
    · exact past_lt i hi
  · rcases mem_snoc.mp hx with h1 | h1 <;> rcases mem_snoc.mp hy with h2 | h2
    · exact O.first x h1 y h2 e
    · subst h2; exact N.first x h1 e
    · subst h1; exact (N.first y h2 e.symm).symm
    · rw [h1, h2]
  · rcases mem_snoc.mp hx with hx | rfl
    · exact O.rg x hx
    · exact N.rg
  · rcases mem_snoc.mp hx with hx | rfl
    · exact O.rgw x hx
    · exact N.rgw
  · rcases mem_snoc.mp hx with hx | rfl
    · exact O.nm x hx
    · exact N.nm
  · rcases mem_snoc.mp hx with hx | rfl
    · exact O.wt x hx
    · exact N.wt
  · rcases mem_snoc.mp hx with hx | rfl
    · exact O.wn x hx
    · exact N.wn
  · rcases mem_snoc.mp hx with hx | rfl
    · exact O.wx x hx
    · exact N.wx
  · rcases mem_snoc.mp hx with hx | rfl
    · obtain ⟨c, hc, r⟩ := O.made x hx
      exact ⟨c, mem_snoc.mpr (.inl hc), r⟩
    · rcases N.made with e | ⟨c, hc, r1, r2, r3⟩
      · exact ⟨x, mem_snoc.mpr (.inr rfl), e, rfl, .inl rfl⟩
      · exact ⟨c, mem_snoc.mpr (.inl hc), r1, r2, .inr r3⟩
theorem Closed.more (O : OkA A) (N : NewAct A a) (C : Closed A S) : Closed (A ++ [a]) S := by
  refine ⟨fun x hx => mem_snoc.mpr (.inl (C.sub x hx)), fun b hb x hx hp => ?_, C.nd⟩
  rcases mem_snoc.mp hx with hx | rfl
  · exact C.cl b hb x hx hp
  · have h1 := O.lt b (C.sub b hb) _ hp
    have h2 := O.idx_lt (C.sub b hb)
    rw [N.ix] at h1
    omega
/-- the act's house hears of it -/
theorem Closed.new (O : OkA A) (N : NewAct A a) (C : Closed A S) (hp : ∀ i ∈ a.past, ∃ b ∈ S, b.idx = i) : Closed (A ++ [a]) (S ++ [a]) := by
  refine ⟨fun x hx => ?_, fun b hb x hx hp2 => ?_, ?_⟩
  · rcases mem_snoc.mp hx with hx | rfl
    · exact mem_snoc.mpr (.inl (C.sub x hx))
    · exact mem_snoc.mpr (.inr rfl)
  · rcases mem_snoc.mp hb with hb | rfl
    · exact mem_snoc.mpr (.inl ((C.more O N).cl b hb x hx hp2))
    · obtain ⟨c, hc, e⟩ := hp _ hp2
      rcases mem_snoc.mp hx with hx | rfl
      · rw [← O.inj (C.sub c hc) hx e]
        exact mem_snoc.mpr (.inl hc)
      · have := O.idx_lt (C.sub c hc)
        rw [e, N.ix] at this; omega
  · rw [List.map_append, List.nodup_append]
    refine ⟨C.nd, by simp, fun i hi j hj e => ?_⟩
    obtain ⟨c, hc, rfl⟩ := List.mem_map.mp hi
    simp at hj
    have := O.idx_lt (C.sub c hc)
    rw [e, hj, N.ix] at this; omega
theorem stands_other (O : OkA A) (C : Closed A S) (hne : a.which ≠ w) {on off : Kind → Bool} {p : Wd} : Stands (S ++ [a]) w on off p ↔ Stands S w on off p := by
  constructor
  · rintro ⟨b, hb, hw, ho, e, hs⟩
    rcases mem_snoc.mp hb with hb | rfl
    · exact ⟨b, hb, hw, ho, e, fun c hc => hs c (mem_snoc.mpr (.inl hc))⟩
    · exact absurd hw hne
  · rintro ⟨b, hb, hw, ho, e, hs⟩
    refine ⟨b, mem_snoc.mpr (.inl hb), hw, ho, e, fun c hc hcw => ?_⟩
    rcases mem_snoc.mp hc with hc | rfl
    · exact hs c hc hcw
    · exact absurd hcw hne
theorem IsLeaf.other (O : OkA A) (C : Closed A S) (hne : a.which ≠ w) (L : IsLeaf S w F) : IsLeaf (S ++ [a]) w F := by
  refine ⟨L.id, fun b hb hw => ?_, fun p => ?_, fun p => by rw [stands_other O C hne]; exact L.names p, fun p => by rw [stands_other O C hne]; exact L.texts p⟩
  · rcases mem_snoc.mp hb with hb | rfl
    · exact L.first b hb hw
    · exact absurd hw hne
  · rw [L.known]
    constructor
    · rintro ⟨b, hb, r⟩; exact ⟨b, mem_snoc.mpr (.inl hb), r⟩
    · rintro ⟨b, hb, hw, r⟩
      rcases mem_snoc.mp hb with hb | rfl
      · exact ⟨b, hb, hw, r⟩
      · exact absurd hw hne
/-- an act on w that had heard of all acts on w -/
theorem stands_act (O : OkA A) (N : NewAct A a) (C : Closed A S) (hw : a.which = w) (hall : ∀ b ∈ S, b.which = w → b.idx ∈ a.past) {on off : Kind → Bool} {p : Wd} :
    Stands (S ++ [a]) w on off p ↔ (off a.kind = false ∧ Stands S w on off p) ∨ (on a.kind = true ∧ p = (a.mark, a.what)) := by
  have self : a.idx ∉ a.past := fun h => by
    obtain ⟨b, hb, e, _⟩ := N.pst _ h
    have := O.idx_lt hb
    rw [e, N.ix] at this; omega
  have old : ∀ b ∈ S, a.idx ∉ b.past := fun b hb h => by
    have h1 := O.lt b (C.sub b hb) _ h
    have h2 := O.idx_lt (C.sub b hb)
    rw [N.ix] at h1; omega
  constructor
  · rintro ⟨b, hb, hbw, ho, e, hs⟩
    rcases mem_snoc.mp hb with hb | rfl
    · exact .inl ⟨hs a (mem_snoc.mpr (.inr rfl)) hw (hall b hb hbw), b, hb, hbw, ho, e, fun c hc => hs c (mem_snoc.mpr (.inl hc))⟩
    · exact .inr ⟨ho, e⟩
  · rintro (⟨h1, b, hb, hbw, ho, e, hs⟩ | ⟨h1, h2⟩)
    · refine ⟨b, mem_snoc.mpr (.inl hb), hbw, ho, e, fun c hc hcw hp => ?_⟩
      rcases mem_snoc.mp hc with hc | rfl
      · exact hs c hc hcw hp
      · exact h1
    · refine ⟨a, mem_snoc.mpr (.inr rfl), hw, h1, h2, fun c hc hcw hp => ?_⟩
      rcases mem_snoc.mp hc with hc | rfl
      · exact absurd hp (old c hc)
      · exact absurd hp self
theorem known_act (hw : a.which = w) {ks : List Mk} (nd : (ks.map (·.1)).Nodup) (hp : 0 < a.mark.2) (hk : ∀ p, within p ks = true ↔ ∃ b ∈ S, b.which = w ∧ b.mark.1 = p.1 ∧ p.2 ≤ b.mark.2) (p : Mk) :
    within p (srt (joinK ks [a.mark])) = true ↔ ∃ b ∈ S ++ [a], b.which = w ∧ b.mark.1 = p.1 ∧ p.2 ≤ b.mark.2 := by
  rw [within_joinK nd (by simpa using hp), Bool.or_eq_true, hk]
  constructor
  · rintro (⟨b, hb, r⟩ | h)
    · exact ⟨b, mem_snoc.mpr (.inl hb), r⟩
    · simp [within] at h
      exact ⟨a, mem_snoc.mpr (.inr rfl), hw, h.1, h.2⟩
  · rintro ⟨b, hb, r⟩
    rcases mem_snoc.mp hb with hb | rfl
    · exact .inl ⟨b, hb, r⟩
    · exact .inr (by simp [within]; exact r.2)
/-- what a house's file comes to by its own act -/
def actF (F : Fl) (a : Act) : Fl := match a.kind with
  | .make => makeF a.mark a.first a.what
  | .write => writeF F a.mark a.what
  | .rename => renameF F a.mark a.what
  | .drop => dropF F a.mark
theorem IsLeaf.act (O : OkA A) (N : NewAct A a) (C : Closed A S) (hw : a.which = w) (hall : ∀ b ∈ S, b.which = w → b.idx ∈ a.past) (hk : a.kind ≠ .make) (L : IsLeaf S w F) (nd : (F.known.map (·.1)).Nodup) (hex : ∃ b ∈ S, b.which = w) : IsLeaf (S ++ [a]) w (actF F a) := by
  have hp : 0 < a.mark.2 := by have := N.rg; unfold Rg at this; omega
  have fst : ∀ b ∈ S ++ [a], b.which = w → F.first = b.first := fun b hb hbw => by
    rcases mem_snoc.mp hb with hb | rfl
    · exact L.first b hb hbw
    · obtain ⟨c, hc, hcw⟩ := hex
      rw [L.first c hc hcw]
      exact N.first c (C.sub c hc) (hcw.trans hbw.symm)
  have st := fun on off p => stands_act O N C hw hall (on := on) (off := off) (p := p)
  have kn := known_act (a := a) hw nd hp L.known
  unfold actF
  cases ek : a.kind with
  | make => exact absurd ek hk
  | write =>
    refine ⟨L.id, fst, kn, fun p => ?_, fun p => ?_⟩
    · rw [st, ek]; simp [writeF, Kind.offN, Kind.nm, L.names]
    · rw [st, ek]; simp [writeF, Kind.offT, Kind.tx]
  | rename =>
    refine ⟨L.id, fst, kn, fun p => ?_, fun p => ?_⟩
    · rw [st, ek]; simp [renameF, Kind.offN, Kind.nm]
    · rw [st, ek]; simp [renameF, Kind.offT, Kind.tx, L.texts]
  | drop =>
    refine ⟨L.id, fst, kn, fun p => ?_, fun p => ?_⟩
    · rw [st, ek]; simp [dropF, Kind.offN, Kind.nm]
    · rw [st, ek]; simp [dropF, Kind.offT, Kind.tx]
theorem IsLeaf.make (O : OkA A) (N : NewAct A a) (C : Closed A S) (hw : a.which = w) (hm : a.mark = w) (hk : a.kind = .make) (hno : ∀ b ∈ S, b.which ≠ w) : IsLeaf (S ++ [a]) w (makeF a.mark a.first a.what) := by
  have hp : 0 < a.mark.2 := by have := N.rg; unfold Rg at this; omega
  have st := fun on off p => stands_act O N C hw (fun b hb e => absurd e (hno b hb)) (on := on) (off := off) (p := p)
  have no : ∀ on off p, ¬ Stands S w on off p := fun on off p ⟨b, hb, hbw, _⟩ => hno b hb hbw
  refine ⟨hm, fun b hb hbw => ?_, fun p => ?_, fun p => ?_, fun p => ?_⟩
  · rcases mem_snoc.mp hb with hb | rfl
    · exact absurd hbw (hno b hb)
    · rfl
  · constructor
    · intro h
      simp [within, makeF] at h
      exact ⟨a, mem_snoc.mpr (.inr rfl), hw, h.1, h.2⟩
    · rintro ⟨b, hb, hbw, r⟩
      rcases mem_snoc.mp hb with hb | rfl
      · exact absurd hbw (hno b hb)
      · simp [within, makeF]; exact r
  · rw [st, hk]; simp [makeF, no, Kind.nm]
  · rw [st, hk]; simp [makeF, no, Kind.tx]
theorem Gk.one {m : Mk} (h : Rg m) : Gk [m] := ⟨by simp, sd_of_pw (List.pairwise_singleton _ _), fun k hk => by simp at hk; subst hk; exact h⟩
theorem Gw.nil {j : Nat} {ks : List Mk} : Gw j ks [] := ⟨by simp, sd_of_pw List.Pairwise.nil, fun p hp => (by cases hp), fun p hp => (by cases hp), fun p hp => (by cases hp), fun p hp => (by cases hp)⟩
theorem Gw.one {j : Nat} {ks : List Mk} {m : Mk} {y : Str} (h : Rg m) (hw : within m ks = true) (ho : PyData.strOk y = true) (hr : rightB j (.str y) = true) : Gw j ks [(m, y)] :=
  ⟨by simp, sd_of_pw (List.pairwise_singleton _ _), fun p hp => by simp at hp; subst hp; exact hw, fun p hp => by simp at hp; subst hp; exact h, fun p hp => by simp at hp; subst hp; exact ho, fun p hp => by simp at hp; subst hp; exact hr⟩
theorem Gw.up {j : Nat} {ks js : List Mk} {xs : List Wd} (h : Gw j ks xs) (hu : ∀ p, within p ks = true → within p js = true) : Gw j js xs := ⟨h.nd, h.sd, fun p hp => hu _ (h.wi p hp), h.rg, h.ok, h.ri⟩
theorem right0 {y : Str} (h : isName (.str y) = true) : rightB 0 (.str y) = true := h
theorem right1 {y : Str} (h : isText (.str y) = true) : rightB 1 (.str y) = true := h
theorem Gd.act {n : Nat} (N : NewAct A a) (g : Gd n F) (hk : a.kind ≠ .make) (hid : F.id = a.which) : Gd (n + 1) (actF F a) := by
  have gk : Gk (srt (joinK F.known [a.mark])) := g.known.join (Gk.one N.rg)
  have hp : 0 < a.mark.2 := by have := N.rg; unfold Rg at this; omega
  have up : ∀ p, within p F.known = true → within p (srt (joinK F.known [a.mark])) = true := fun p h => by
    rw [within_joinK g.known.nd (by simpa using hp), h]; rfl
  have own : within a.mark (srt (joinK F.known [a.mark])) = true := by
    rw [within_joinK g.known.nd (by simpa using hp)]
    simp [within]
  have ln := g.ln
  have lt := g.lt
  unfold actF
  cases ek : a.kind with
  | make => exact absurd ek hk
  | write => exact ⟨g.id, g.first, g.fok, gk, up _ g.own, g.names.up up, Gw.one N.rg own N.wt (right1 (N.wx (by rw [ek]; rfl))), by show F.names.length ≤ _; omega, by simp [writeF]⟩
  | rename => exact ⟨g.id, g.first, g.fok, gk, up _ g.own, Gw.one N.rg own N.wt (right0 (N.wn (by rw [ek]; rfl))), g.texts.up up, by simp [renameF], by show F.texts.length ≤ _; omega⟩
  | drop => exact ⟨g.id, g.first, g.fok, gk, up _ g.own, Gw.nil, Gw.nil, by simp [dropF], by simp [dropF]⟩
theorem Gd.make {n : Nat} (N : NewAct A a) (hk : a.kind = .make) : Gd (n + 1) (makeF a.mark a.first a.what) := by
  have own : within a.mark [a.mark] = true := by simp [within]
  exact ⟨N.rg, N.nm.1, N.nm.2, Gk.one N.rg, own, Gw.nil, Gw.one N.rg own N.wt (right1 (N.wx (by rw [hk]; rfl))), by simp [makeF], by simp [makeF]⟩
end
structure Shelf (S : List Act) (E : List (Mk × Fl)) : Prop where
  nd : (E.map (·.1)).Nodup
  ok : ∀ w F, getM E w = some F → (∃ a ∈ S, a.which = w) ∧ IsLeaf S w F ∧ ∃ n, Gd n F
  all : ∀ a ∈ S, ∃ F, getM E a.which = some F
section
variable {A S T U : List Act} {E : List (Mk × Fl)} {w : Mk} {F G : Fl} {a : Act}
theorem Shelf.gd (C : Closed A S) (H : Shelf S E) (hg : getM E w = some F) : Gd A.length F := by
  obtain ⟨_, L, n, g⟩ := H.ok w F hg
  exact L.cut C g
theorem Shelf.len (C : Closed A S) (H : Shelf S E) : E.length ≤ A.length := by
  have : E.map (·.1) ⊆ A.map (·.which) := fun w hw => by
    have := mem_keysM.mp hw
    rw [hasM_get, Option.isSome_iff_exists] at this
    obtain ⟨F, e⟩ := this
    obtain ⟨⟨a, ha, rfl⟩, _⟩ := H.ok w F e
    exact List.mem_map.mpr ⟨a, C.sub a ha, rfl⟩
  have := List.Nodup.length_le_of_subset H.nd this
  simpa using this
theorem Shelf.mk2 (H : Shelf S E) {F : Fl} (hS : ∀ w', w' ≠ w → ∀ G, IsLeaf S w' G → IsLeaf U w' G) (hU : ∀ a, a ∈ U → a ∈ S ∨ a.which = w) (hSU : ∀ a, a ∈ S → a ∈ U) (hw : ∃ a ∈ U, a.which = w) (L : IsLeaf U w F) {n : Nat} (g : Gd n F) : Shelf U (puM E w F) := by
  refine ⟨puM_nd H.nd, fun w' G hG => ?_, fun a ha => ?_⟩
  · rw [getM_put] at hG
    by_cases e : w' = w
    · rw [if_pos e] at hG
      cases hG
      subst e
      exact ⟨hw, L, n, g⟩
    · rw [if_neg e] at hG
      obtain ⟨⟨b, hb, hbw⟩, L', g'⟩ := H.ok w' G hG
      exact ⟨⟨b, hSU b hb, hbw⟩, hS w' e G L', g'⟩
  · rw [getM_put]
    by_cases e : a.which = w
    · exact ⟨F, by rw [if_pos e]⟩
    · rw [if_neg e]
      rcases hU a ha with h | h
      · exact H.all a h
      · exact absurd h e
end
end
end MM
namespace MM
open PySem L2 PySem.Spec PyProof.Rows
end MM
namespace MM
open PySem L2 PySem.W
noncomputable section
def kindS : Kind → Str
  | .make => Str.ofString "make"
  | .write => Str.ofString "write"
  | .rename => Str.ofString "rename"
  | .drop => Str.ofString "drop"
def idxI (a : Act) : Int := (a.idx : Int)
def pastV (ks : List Nat) : List Val := ks.map fun i : Nat => .int (i : Int)
def eAct (a : Act) : Val := .tup [eM a.which, eM a.mark, .str (kindS a.kind), .str a.what, .lst (pastV a.past), .str a.first]
def kvB (S : List Act) : List (Key × Val) := S.map fun a => (.inl (idxI a), .bl true)
section
variable {A S : List Act} {w : Mk} {F : Fl} {h : HM} {na nb : Nat}
theorem Closed.len (O : OkA A) (C : Closed A S) : S.length ≤ A.length := by
  have : S.map (·.idx) ⊆ List.range A.length := fun i hi => by
    obtain ⟨a, ha, rfl⟩ := List.mem_map.mp hi
    exact List.mem_range.mpr (O.idx_lt (C.sub a ha))
  have := List.Nodup.length_le_of_subset C.nd this
  simpa using this
theorem sorted_ref {α : Type} [DecidableEq α] [Enc α] {xs : List α} {n : Nat} (hn : h[n]? = some (.lst (xs.map Enc.enc))) (hs : Sortable (xs.map (Datum.toD : α → PyData))) (hl : xs.length ≤ 1000000) (hd : Datum.depth α ≤ 50 := by decide) : bSorted [.ref n] h = .ok (.lst ((srt xs).map Enc.enc)) h := by
  simp only [bSorted, sortItems, hn, datFs_map, if_pos (canSort hs hl hd), sortV_enc]
theorem sorted_kvI {ks : List Mk} {n : Nat} (hn : h[n]? = some (.dK (kvI ks))) (hl : ks.length ≤ 1000000) : bSorted [.ref n] h = .ok (.lst ((srt (ks.map (·.1))).map .int)) h := by
  have hk : (ks.map (·.1)).length ≤ 1000000 := by simpa using hl
  have so := canSort (sortable_int (ks.map (·.1))) hk (by decide)
  have hd := datFs_map (ks.map (·.1))
  have hs := sortV_enc (ks.map (·.1))
  have e : (kvI ks).map (fun p => keyV p.1) = (ks.map (·.1)).map .int := by rw [keys_kvI, List.map_map]; rfl
  simp only [show (Enc.enc : Int → Val) = Val.int from rfl] at hd hs
  simp only [bSorted, sortItems, hn, e, hd, if_pos so, hs]
theorem Shelf.keys {E : List (Mk × Fl)} (H : Shelf S E) (m : Mk) : m ∈ E.map (·.1) ↔ m ∈ S.map (·.which) := by
  rw [mem_keysM, hasM_get, Option.isSome_iff_exists]
  constructor
  · rintro ⟨F, e⟩
    obtain ⟨⟨a, ha, rfl⟩, _⟩ := H.ok m F e
    exact List.mem_map_of_mem ha
  · intro h
    obtain ⟨a, ha, rfl⟩ := List.mem_map.mp h
    exact H.all a ha
end
end
end MM
namespace MM
open PySem L2 PySem.W
noncomputable section
structure Wo where
  m : Nat
  num : Nat → Int
  ct : Nat → Int
  A : List Act
  S : Nat → List Act
  E : Nat → List (Mk × Fl)
def up {α : Type} (f : Nat → α) (i : Nat) (v : α) : Nat → α := fun j => if j = i then v else f j
theorem up_same {α : Type} {f : Nat → α} {i : Nat} {v : α} : up f i v i = v := by simp [up]
theorem up_ne {α : Type} {f : Nat → α} {i j : Nat} {v : α} (h : j ≠ i) : up f i v j = f j := by simp [up, h]
/-- where the houses, their counts, the acts, and who heard of what stand -/
structure WAt (b : Nat) (W : Wo) (h : HM) : Prop where
  hs : h[b + 3 * W.m]? = some (.lst ((List.range W.m).map fun i => .ref (b + 3 * i)))
  cs : h[b + 3 * W.m + 1]? = some (.lst ((List.range W.m).map fun i => .int (W.ct i)))
  as : h[b + 3 * W.m + 2]? = some (.lst (W.A.map eAct))
  bs : h[b + 4 * W.m + 3]? = some (.lst ((List.range W.m).map fun i => .ref (b + 3 * W.m + 3 + i)))
  hh : ∀ i, i < W.m → HE h (b + 3 * i) (W.num i) (W.ct i) (W.E i)
  bk : ∀ i, i < W.m → h[b + 3 * W.m + 3 + i]? = some (.dK (kvB (W.S i)))
/-- but for the houses, the acts and the books at b all stays -/
def Frm (b m : Nat) (h h' : HM) : Prop := h.length ≤ h'.length ∧ ∀ q, q < h.length → (q < b ∨ b + 4 * m + 3 < q) → h'[q]? = h[q]?
theorem Frm.app {b m : Nat} {h g : HM} : Frm b m h (h ++ g) := ⟨by simp, fun q hq _ => List.getElem?_append_left hq⟩
theorem Frm.trans {b m : Nat} {h h1 h2 : HM} (x : Frm b m h h1) (y : Frm b m h1 h2) : Frm b m h h2 := ⟨Nat.le_trans x.1 y.1, fun q hq e => (y.2 q (Nat.lt_of_lt_of_le hq x.1) e).trans (x.2 q hq e)⟩
structure WOk (W : Wo) : Prop where
  ok : OkA W.A
  cl : ∀ i, i < W.m → Closed W.A (W.S i)
  sh : ∀ i, i < W.m → Shelf (W.S i) (W.E i)
  nums : ∀ i, i < W.m → 0 ≤ W.num i ∧ W.num i ≤ 5
  inj : ∀ i, i < W.m → ∀ j, j < W.m → W.num i = W.num j → i = j
  own : ∀ a ∈ W.A, ∃ i, i < W.m ∧ a.mark.1 = W.num i ∧ a.mark.2 ≤ W.ct i ∧ a ∈ W.S i
  ct0 : ∀ i, i < W.m → 0 ≤ W.ct i ∧ W.ct i ≤ W.A.length
  m6 : W.m ≤ 6
theorem WAt.app {b : Nat} {W : Wo} {h g : HM} (H : WAt b W h) : WAt b W (h ++ g) := by
  have key : ∀ {k : Nat} {o : Ob}, h[k]? = some o → (h ++ g)[k]? = some o := fun {k o} e => by
    rw [List.getElem?_append_left (List.getElem?_eq_some_iff.mp e).1]; exact e
  exact ⟨key H.hs, key H.cs, key H.as, key H.bs, fun i hi => (H.hh i hi).app, fun i hi => key (H.bk i hi)⟩
section
variable {b : Nat} {W : Wo} {h : HM} {i : Nat}
def pastOf (S : List Act) (w : Mk) : List Nat := (S.filter fun a => decide (a.which = w)).map (·.idx)
theorem mem_pastOf {S : List Act} {w : Mk} {i : Nat} : i ∈ pastOf S w ↔ ∃ a ∈ S, a.which = w ∧ a.idx = i := by
  unfold pastOf
  simp only [List.mem_map, List.mem_filter, decide_eq_true_eq, and_assoc]
def Wo.acted (W : Wo) (i : Nat) (a : Act) (E : List (Mk × Fl)) : Wo := ⟨W.m, W.num, up W.ct i (W.ct i + 1), W.A ++ [a], up W.S i (W.S i ++ [a]), up W.E i E⟩
theorem WOk.new (O : WOk W) (hi : i < W.m) {a : Act} (ix : a.idx = W.A.length) (mk : a.mark = (W.num i, W.ct i + 1)) (hp : a.past = pastOf (W.S i) a.which)
    (first : ∀ b ∈ W.A, b.which = a.which → b.first = a.first) (rgw : Rg a.which) (nm : isName (.str a.first) = true ∧ PyData.strOk a.first = true) (wt : PyData.strOk a.what = true) (wn : a.kind.nm = true → isName (.str a.what) = true) (wx : a.kind.tx = true → isText (.str a.what) = true)
    (hex : a.mark = a.which ∨ ∃ c ∈ W.S i, c.which = a.which) : NewAct W.A a := by
  have C := O.cl i hi
  have own : ∀ b ∈ W.A, b.mark.1 = W.num i → b.mark.2 ≤ W.ct i ∧ b ∈ W.S i := fun b hb e => by
    obtain ⟨j, hj, h1, h2, h3⟩ := O.own b hb
    have := O.inj j hj i hi (h1.symm.trans e)
    subst this
    exact ⟨h2, h3⟩
  have m1 : a.mark.1 = W.num i := by rw [mk]
  have m2 : a.mark.2 = W.ct i + 1 := by rw [mk]
  have n0 := O.nums i hi
  have c0 := O.ct0 i hi
  refine ⟨ix, fun b hb e => ?_, fun b hb e1 e2 => ?_, fun j hj => ?_, first, ?_, rgw, nm, wt, wn, wx, ?_⟩
  · have := (own b hb (e.trans m1)).1; omega
  · rw [hp, mem_pastOf]
    exact ⟨b, (own b hb (e2.trans m1)).2, e1, rfl⟩
  · rw [hp, mem_pastOf] at hj
    obtain ⟨b, hb, e1, e2⟩ := hj
    refine ⟨b, C.sub b hb, e2, e1, fun k hk => ?_⟩
    obtain ⟨c, hc, f1, f2, _⟩ := O.ok.pst b (C.sub b hb) k hk
    rw [hp, mem_pastOf]
    exact ⟨c, C.cl b hb c hc (by rw [f1]; exact hk), f2.trans e1, f1⟩
  · unfold Rg; omega
  · rcases hex with e | ⟨c, hc, e⟩
    · exact .inl e
    · obtain ⟨d, hd, f1, f2, f3⟩ := O.ok.made c (C.sub c hc)
      refine .inr ⟨d, hd, f1.trans e, f2.trans e, ?_⟩
      rw [hp, mem_pastOf]
      rcases f3 with rfl | f3
      · exact ⟨d, hc, e, rfl⟩
      · exact ⟨d, C.cl c hc d hd f3, f2.trans e, rfl⟩
theorem WOk.acted (O : WOk W) (hi : i < W.m) {a : Act} {E : List (Mk × Fl)} (N : NewAct W.A a) (mk : a.mark = (W.num i, W.ct i + 1)) (hp : a.past = pastOf (W.S i) a.which) (hE : Shelf (W.S i ++ [a]) E) : WOk (W.acted i a E) := by
  refine ⟨O.ok.new N, fun j hj => ?_, fun j hj => ?_, O.nums, O.inj, fun c hc => ?_, fun j hj => ?_, O.m6⟩
  · show Closed (W.A ++ [a]) (up W.S i (W.S i ++ [a]) j)
    by_cases e : j = i
    · subst e
      rw [up_same]
      refine (O.cl j hj).new O.ok N fun k hk => ?_
      rw [hp, mem_pastOf] at hk
      obtain ⟨b, hb, _, e⟩ := hk
      exact ⟨b, hb, e⟩
    · rw [up_ne e]
      exact (O.cl j hj).more O.ok N
  · show Shelf (up W.S i (W.S i ++ [a]) j) (up W.E i E j)
    by_cases e : j = i
    · subst e
      rw [up_same, up_same]; exact hE
    · rw [up_ne e, up_ne e]; exact O.sh j hj
  · have hc : c ∈ W.A ++ [a] := hc
    show ∃ j, j < W.m ∧ c.mark.1 = W.num j ∧ c.mark.2 ≤ up W.ct i (W.ct i + 1) j ∧ c ∈ up W.S i (W.S i ++ [a]) j
    rcases mem_snoc.mp hc with h1 | h1
    · obtain ⟨j, hj, h2, h3, h4⟩ := O.own c h1
      refine ⟨j, hj, h2, ?_, ?_⟩
      · by_cases e : j = i
        · subst e; rw [up_same]; omega
        · rw [up_ne e]; exact h3
      · by_cases e : j = i
        · subst e; rw [up_same]; exact mem_snoc.mpr (.inl h4)
        · rw [up_ne e]; exact h4
    · subst h1
      exact ⟨i, hi, by rw [mk], by rw [mk, up_same]; exact Int.le_refl _, by rw [up_same]; exact mem_snoc.mpr (.inr rfl)⟩
  · have hj : j < W.m := hj
    have := O.ct0 j hj
    show 0 ≤ up W.ct i (W.ct i + 1) j ∧ up W.ct i (W.ct i + 1) j ≤ ((W.A ++ [a]).length : Nat)
    rw [List.length_append, List.length_singleton]
    by_cases e : j = i
    · subst e; rw [up_same]; omega
    · rw [up_ne e]; omega
/-- its own act on a file that it has -/
theorem shelf_act (O : WOk W) (hi : i < W.m) {a : Act} {F : Fl} (N : NewAct W.A a) (hp : a.past = pastOf (W.S i) a.which) (hk : a.kind ≠ .make) (hF : getM (W.E i) a.which = some F) : Shelf (W.S i ++ [a]) (puM (W.E i) a.which (actF F a)) := by
  obtain ⟨hex, L, n, g⟩ := (O.sh i hi).ok _ _ hF
  have C := O.cl i hi
  have hall : ∀ b ∈ W.S i, b.which = a.which → b.idx ∈ a.past := fun b hb e => by rw [hp, mem_pastOf]; exact ⟨b, hb, e, rfl⟩
  refine (O.sh i hi).mk2 (U := W.S i ++ [a]) (w := a.which) (fun w' e G hG => hG.other O.ok C (fun z => e z.symm)) (fun x hx => ?_) (fun x hx => mem_snoc.mpr (.inl hx)) ⟨a, mem_snoc.mpr (.inr rfl), rfl⟩ (L.act O.ok N C rfl hall hk g.known.nd hex) (g.act N hk L.id)
  rcases mem_snoc.mp hx with h | h
  · exact .inl h
  · exact .inr (by rw [h])
theorem shelf_make (O : WOk W) (hi : i < W.m) {a : Act} (N : NewAct W.A a) (hk : a.kind = .make) (hm : a.mark = a.which) (hno : ∀ b ∈ W.S i, b.which ≠ a.which) : Shelf (W.S i ++ [a]) (puM (W.E i) a.which (makeF a.mark a.first a.what)) := by
  have C := O.cl i hi
  refine (O.sh i hi).mk2 (U := W.S i ++ [a]) (w := a.which) (fun w' e G hG => hG.other O.ok C (fun z => e z.symm)) (fun x hx => ?_) (fun x hx => mem_snoc.mpr (.inl hx)) ⟨a, mem_snoc.mpr (.inr rfl), rfl⟩ (IsLeaf.make O.ok N C rfl hm hk hno) (Gd.make (n := 0) N hk)
  rcases mem_snoc.mp hx with h | h
  · exact .inl h
  · exact .inr (by rw [h])
/-- how it stands after an act -/
theorem WAt.acted {h1 : HM} {a : Act} {E : List (Mk × Fl)} (H : WAt b W h) (hi : i < W.m) (H1 : HE h1 (b + 3 * i) (W.num i) (W.ct i + 1) E) (len : h1.length = h.length)
    (fr : ∀ k, k ≠ b + 3 * i → k ≠ b + 3 * i + 1 → k ≠ b + 3 * W.m + 1 → h1[k]? = h[k]?) (cs : h1[b + 3 * W.m + 1]? = some (.lst ((List.range W.m).map fun j => .int (up W.ct i (W.ct i + 1) j)))) :
    WAt b (W.acted i a E) ((h1.set (b + 3 * W.m + 3 + i) (.dK (kvB (W.S i ++ [a])))).set (b + 3 * W.m + 2) (.lst ((W.A ++ [a]).map eAct))) := by
  have la : b + 3 * W.m + 2 < h.length := (List.getElem?_eq_some_iff.mp H.as).1
  have lb : b + 3 * W.m + 3 + i < h.length := (List.getElem?_eq_some_iff.mp (H.bk i hi)).1
  refine ⟨?_, ?_, ?_, ?_, fun j hj => ?_, fun j hj => ?_⟩
  · show ((h1.set _ _).set _ _)[b + 3 * W.m]? = _
    rw [List.getElem?_set_ne (by omega), List.getElem?_set_ne (by omega), fr _ (by omega) (by omega) (by omega)]
    exact H.hs
  · show ((h1.set _ _).set _ _)[b + 3 * W.m + 1]? = _
    rw [List.getElem?_set_ne (by omega), List.getElem?_set_ne (by omega)]
    exact cs
  · show ((h1.set _ _).set _ _)[b + 3 * W.m + 2]? = _
    rw [List.getElem?_set_self (by simp; omega)]
    rfl
  · show ((h1.set _ _).set _ _)[b + 4 * W.m + 3]? = _
    rw [List.getElem?_set_ne (by omega), List.getElem?_set_ne (by omega), fr _ (by omega) (by omega) (by omega)]
    exact H.bs
  · have hj : j < W.m := hj
    show HE ((h1.set _ _).set _ _) (b + 3 * j) (W.num j) (up W.ct i (W.ct i + 1) j) (up W.E i E j)
    refine (HE.set ?_ (by omega) (by omega)).set (by omega) (by omega)
    by_cases e : j = i
    · subst e
      rw [up_same, up_same]; exact H1
    · rw [up_ne e, up_ne e]
      obtain ⟨D, e1, q⟩ := H.hh j hj
      exact ⟨D, e1, ⟨by rw [fr _ (by omega) (by omega) (by omega)]; exact q.ins, by rw [fr _ (by omega) (by omega) (by omega)]; exact q.sh⟩⟩
  · have hj : j < W.m := hj
    show ((h1.set _ _).set _ _)[b + 3 * W.m + 3 + j]? = some (.dK (kvB (up W.S i (W.S i ++ [a]) j)))
    rw [List.getElem?_set_ne (by omega)]
    by_cases e : j = i
    · subst e
      rw [up_same, List.getElem?_set_self (by omega)]
    · rw [up_ne e, List.getElem?_set_ne (by omega), fr _ (by omega) (by omega) (by omega)]
      exact H.bk j hj
end
end
end MM
namespace MM
open PySem L2 PySem.W
end MM
namespace MM
open PySem L2 PySem.W
noncomputable section
def tell1 (S : List Act) (a : Act) : List Act := if a.idx ∈ S.map (·.idx) then S else S ++ [a]
def tellS (S G : List Act) (w : Mk) : List Act := (G.filter fun a => decide (a.which = w)).foldl tell1 S
section
variable {A S T G U : List Act} {w : Mk} {a : Act} {F F0 : Fl}
theorem tell1_nd (h : (S.map (·.idx)).Nodup) : ((tell1 S a).map (·.idx)).Nodup := by
  unfold tell1
  split
  · exact h
  · rename_i q
    rw [List.map_append, List.nodup_append]
    exact ⟨h, by simp, fun x hx y hy e => by simp at hy; subst hy e; exact q hx⟩
theorem foldS : ∀ {L S : List Act}, (S.map (·.idx)).Nodup → ((L.foldl tell1 S).map (·.idx)).Nodup
  | [], S, h => h
  | a :: L, S, h => foldS (L := L) (tell1_nd h)
theorem foldS_mem (O : OkA A) : ∀ {L S : List Act}, (∀ x ∈ L, x ∈ A) → (∀ x ∈ S, x ∈ A) → ∀ x, x ∈ L.foldl tell1 S ↔ x ∈ S ∨ x ∈ L
  | [], S, _, _, x => by simp
  | a :: L, S, hL, hS, x => by
    have hmem : ∀ y, y ∈ tell1 S a ↔ y ∈ S ∨ y = a := fun y => by
      unfold tell1
      split
      · rename_i q
        obtain ⟨z, hz, e⟩ := List.mem_map.mp q
        have : z = a := O.inj (hS z hz) (hL a List.mem_cons_self) e
        subst this
        constructor
        · exact .inl
        · rintro (h | rfl)
          · exact h
          · exact hz
      · simp
    rw [List.foldl_cons, foldS_mem O (fun y hy => hL y (List.mem_cons_of_mem _ hy)) (fun y hy => by
      rcases (hmem y).mp hy with h | rfl
      · exact hS y h
      · exact hL _ List.mem_cons_self), hmem, List.mem_cons, or_assoc]
theorem tellS_mem (O : OkA A) (CS : Closed A S) (CG : Closed A G) (x : Act) : x ∈ tellS S G w ↔ x ∈ S ∨ (x ∈ G ∧ x.which = w) := by
  unfold tellS
  rw [foldS_mem O (fun y hy => CG.sub y (List.mem_filter.mp hy).1) CS.sub, List.mem_filter, decide_eq_true_eq]
theorem tellS_closed (O : OkA A) (CS : Closed A S) (CG : Closed A G) : Closed A (tellS S G w) := by
  refine ⟨fun x hx => ?_, fun b hb x hx hp => ?_, foldS CS.nd⟩
  · rcases (tellS_mem O CS CG x).mp hx with h | h
    · exact CS.sub x h
    · exact CG.sub x h.1
  · rw [tellS_mem O CS CG]
    rcases (tellS_mem O CS CG b).mp hb with h | h
    · exact .inl (CS.cl b h x hx hp)
    · refine .inr ⟨CG.cl b h.1 x hx hp, ?_⟩
      obtain ⟨y, hy, e1, e2, _⟩ := O.pst b (CG.sub b h.1) _ hp
      rw [← O.inj hy hx e1, e2]; exact h.2
theorem IsLeaf.congr (h : ∀ a, a.which = w → (a ∈ S ↔ a ∈ T)) (L : IsLeaf S w F) : IsLeaf T w F := by
  have st : ∀ (on off : Kind → Bool) p, Stands S w on off p ↔ Stands T w on off p := fun on off p => by
    constructor
    · rintro ⟨a, h1, h2, h3, h4, h5⟩; exact ⟨a, (h a h2).mp h1, h2, h3, h4, fun b hb hbw => h5 b ((h b hbw).mpr hb) hbw⟩
    · rintro ⟨a, h1, h2, h3, h4, h5⟩; exact ⟨a, (h a h2).mpr h1, h2, h3, h4, fun b hb hbw => h5 b ((h b hbw).mp hb) hbw⟩
  refine ⟨L.id, fun a ha hw => L.first a ((h a hw).mpr ha) hw, fun p => ?_, fun p => by rw [← st]; exact L.names p, fun p => by rw [← st]; exact L.texts p⟩
  rw [L.known]
  constructor
  · rintro ⟨a, h1, h2, h3⟩; exact ⟨a, (h a h2).mp h1, h2, h3⟩
  · rintro ⟨a, h1, h2, h3⟩; exact ⟨a, (h a h2).mpr h1, h2, h3⟩
/-- whether one lacks an act on w that the other one heard of -/
def lacks (S G : List Act) (w : Mk) : Bool := G.any fun a => decide (a.which = w) && !decide (idxI a ∈ S.map idxI)
theorem lacks_iff (O : OkA A) (CS : Closed A S) (CG : Closed A G) : lacks S G w = true ↔ ∃ a ∈ G, a.which = w ∧ a ∉ S := by
  unfold lacks
  rw [List.any_eq_true]
  simp only [Bool.and_eq_true, decide_eq_true_eq, Bool.not_eq_true', decide_eq_false_iff_not]
  constructor
  · rintro ⟨a, ha, h1, h2⟩
    exact ⟨a, ha, h1, fun z => h2 (List.mem_map_of_mem z)⟩
  · rintro ⟨a, ha, h1, h2⟩
    refine ⟨a, ha, h1, fun z => h2 ?_⟩
    obtain ⟨x, hx, e⟩ := List.mem_map.mp z
    rw [← O.inj (CS.sub x hx) (CG.sub a ha) (by unfold idxI at e; omega)]
    exact hx
/-- both files joined: the leaf of what is told -/
theorem join_told {n m : Nat} (O : OkA A) (CS : Closed A S) (CG : Closed A G) (h0 : IsLeaf S w F0) (hF : IsLeaf G w F) (g0 : Gd n F0) (gF : Gd m F) (hex : ∃ a ∈ S, a.which = w) (hU : ∀ x, x ∈ U ↔ x ∈ S ∨ (x ∈ G ∧ x.which = w)) :
    IsLeaf U w (joinF F0 F) ∧ (joinF F0 F = F0 ↔ lacks S G w = false) := by
  have L : IsLeaf U w (joinF F0 F) := (IsLeaf.join O CS CG h0 hF g0 gF (U := S ++ G) (fun a => List.mem_append) hex).congr fun a ha => by
    rw [List.mem_append, hU]
    constructor
    · rintro (h | h)
      · exact .inl h
      · exact .inr ⟨h, ha⟩
    · rintro (h | h)
      · exact .inl h
      · exact .inr h.1
  refine ⟨L, ?_⟩
  constructor
  · intro e
    cases hl : lacks S G w with
    | false => rfl
    | true =>
      obtain ⟨a, ha, hw, hn⟩ := (lacks_iff O CS CG).mp hl
      have k1 : within a.mark (joinF F0 F).known = true := (L.known a.mark).mpr ⟨a, (hU a).mpr (.inr ⟨ha, hw⟩), hw, rfl, Int.le_refl _⟩
      rw [e] at k1
      exact absurd ((h0.heard O CS (CG.sub a ha) hw).mp k1) hn
  · intro hl
    refine IsLeaf.uniq L h0 (g0.join gF) g0 (fun a ha => ?_) ?_
    · rw [hU]
      constructor
      · rintro (h | ⟨h, _⟩)
        · exact h
        · apply Classical.byContradiction
          intro hn
          have := (lacks_iff O CS CG).mpr ⟨a, h, ha, hn⟩
          rw [hl] at this; cases this
      · exact .inl
    · obtain ⟨c, hc, hcw⟩ := hex
      exact ⟨c, (hU c).mpr (.inl hc), hcw⟩
end
section
variable {b : Nat} {W : Wo} {h : HM} {i j : Nat}
def Wo.lent (W : Wo) (j : Nat) (S : List Act) (E : List (Mk × Fl)) : Wo := ⟨W.m, W.num, W.ct, W.A, up W.S j S, up W.E j E⟩
theorem WOk.lent (O : WOk W) (hj : j < W.m) {S' : List Act} {E' : List (Mk × Fl)} (C : Closed W.A S') (hS : Shelf S' E') (hsub : ∀ a ∈ W.S j, a ∈ S') : WOk (W.lent j S' E') := by
  refine ⟨O.ok, fun k hk => ?_, fun k hk => ?_, O.nums, O.inj, fun a ha => ?_, O.ct0, O.m6⟩
  · show Closed W.A (up W.S j S' k)
    by_cases e : k = j
    · subst e; rw [up_same]; exact C
    · rw [up_ne e]; exact O.cl k hk
  · show Shelf (up W.S j S' k) (up W.E j E' k)
    by_cases e : k = j
    · subst e; rw [up_same, up_same]; exact hS
    · rw [up_ne e, up_ne e]; exact O.sh k hk
  · obtain ⟨k, hk, h1, h2, h3⟩ := O.own a ha
    refine ⟨k, hk, h1, h2, ?_⟩
    show a ∈ up W.S j S' k
    by_cases e : k = j
    · subst e; rw [up_same]; exact hsub a h3
    · rw [up_ne e]; exact h3
theorem WAt.lent {h1 : HM} {S' : List Act} {E' : List (Mk × Fl)} (H : WAt b W h) (hj : j < W.m) (H1 : HE h1 (b + 3 * j) (W.num j) (W.ct j) E')
    (fr : ∀ k, k ≠ b + 3 * j → k ≠ b + 3 * j + 1 → k ≠ b + 3 * W.m + 3 + j → h1[k]? = h[k]?) (bk : h1[b + 3 * W.m + 3 + j]? = some (.dK (kvB S'))) : WAt b (W.lent j S' E') h1 := by
  refine ⟨?_, ?_, ?_, ?_, fun k hk => ?_, fun k hk => ?_⟩
  · exact (fr (b + 3 * W.m) (by omega) (by omega) (by omega)).trans H.hs
  · exact (fr (b + 3 * W.m + 1) (by omega) (by omega) (by omega)).trans H.cs
  · exact (fr (b + 3 * W.m + 2) (by omega) (by omega) (by omega)).trans H.as
  · exact (fr (b + 4 * W.m + 3) (by omega) (by omega) (by omega)).trans H.bs
  · have hk : k < W.m := hk
    show HE h1 (b + 3 * k) (W.num k) (W.ct k) (up W.E j E' k)
    by_cases e : k = j
    · subst e; rw [up_same]; exact H1
    · rw [up_ne e]
      obtain ⟨D, e1, q⟩ := H.hh k hk
      exact ⟨D, e1, ⟨(fr _ (by omega) (by omega) (by omega)).trans q.ins, (fr _ (by omega) (by omega) (by omega)).trans q.sh⟩⟩
  · have hk : k < W.m := hk
    show h1[b + 3 * W.m + 3 + k]? = some (.dK (kvB (up W.S j S' k)))
    by_cases e : k = j
    · subst e; rw [up_same]; exact bk
    · rw [up_ne e]
      exact (fr _ (by omega) (by omega) (by omega)).trans (H.bk k hk)
/-- a house takes a file as another one has it -/
theorem take_lent (O : WOk W) (hl : W.A.length ≤ 100) (hi : i < W.m) (hj : j < W.m) {w : Mk} {F : Fl} {c : Bool} (hF : getM (W.E i) w = some F) (Hj : HE h (b + 3 * j) (W.num j) (W.ct j) (W.E j)) :
    ∃ h' E', m_House_take [.ref (b + 3 * j), eB (F, c)] h = .ok (.bl (lacks (W.S j) (W.S i) w)) h' ∧ HE h' (b + 3 * j) (W.num j) (W.ct j) E' ∧ Fr (b + 3 * j) h h' ∧ WOk (W.lent j (tellS (W.S j) (W.S i) w) E') := by
  have CI := O.cl i hi
  have CJ := O.cl j hj
  have SJ := O.sh j hj
  obtain ⟨hexI, LF, n, gF⟩ := (O.sh i hi).ok w F hF
  have gF := LF.cut CI gF
  have lE := SJ.len CJ
  have idF := LF.id
  have C' := tellS_closed (w := w) O.ok CJ CI
  have mem' := tellS_mem (w := w) O.ok CJ CI
  have hU1 : ∀ a, a ∈ tellS (W.S j) (W.S i) w → a ∈ W.S j ∨ a.which = w := fun a ha => ((mem' a).mp ha).imp id fun z => z.2
  have hU2 : ∀ a, a ∈ W.S j → a ∈ tellS (W.S j) (W.S i) w := fun a ha => (mem' a).mpr (.inl ha)
  have oth : ∀ w', w' ≠ w → ∀ G, IsLeaf (W.S j) w' G → IsLeaf (tellS (W.S j) (W.S i) w) w' G := fun w' e G hG => hG.congr fun a ha => by
    rw [mem']
    constructor
    · exact .inl
    · rintro (h | ⟨_, h⟩)
      · exact h
      · exact absurd (ha.symm.trans h) e
  have hexU : ∃ a ∈ tellS (W.S j) (W.S i) w, a.which = w := by
    obtain ⟨c, hc, hcw⟩ := hexI
    exact ⟨c, (mem' c).mpr (.inr ⟨hc, hcw⟩), hcw⟩
  subst idF
  cases hg : getM (W.E j) F.id with
  | none =>
    obtain ⟨h', e, H', fr⟩ := take_new (b := c) Hj hg gF (by omega)
    have no : ∀ a ∈ W.S j, a.which ≠ F.id := fun a ha e => by
      obtain ⟨G, hG⟩ := SJ.all a ha
      rw [e, hg] at hG; cases hG
    have hlk : lacks (W.S j) (W.S i) F.id = true := by
      obtain ⟨c, hc, hcw⟩ := hexI
      exact (lacks_iff O.ok CJ CI).mpr ⟨c, hc, hcw, fun z => no c z hcw⟩
    have L' : IsLeaf (tellS (W.S j) (W.S i) F.id) F.id F := LF.congr fun a ha => by
      rw [mem']
      constructor
      · exact fun z => .inr ⟨z, ha⟩
      · rintro (h | h)
        · exact absurd ha (no a h)
        · exact h.1
    rw [hlk]
    exact ⟨h', _, e, H', fr, O.lent hj C' (SJ.mk2 oth hU1 hU2 hexU L' gF) hU2⟩
  | some F0 =>
    obtain ⟨hex0, L0, n0, g0⟩ := SJ.ok _ _ hg
    have g0 := L0.cut CJ g0
    have fst : F.first = F0.first := by
      obtain ⟨c, hc, hcw⟩ := hexI
      obtain ⟨d, hd, hdw⟩ := hex0
      rw [LF.first c hc hcw, L0.first d hd hdw]
      exact O.ok.first c (CI.sub c hc) d (CJ.sub d hd) (hcw.trans hdw.symm)
    obtain ⟨L', hiff⟩ := join_told O.ok CJ CI L0 LF g0 gF hex0 mem'
    have gj := L'.cut C' (g0.join gF)
    have wf : Wff F.id F0.first (W.A.length + 6) F := fst ▸ gF.wff6
    obtain ⟨h', e, H', fr⟩ := take_old (b := c) Hj hg L0.id (g0.mono (by omega : W.A.length ≤ W.A.length + 6)) wf (by omega) (by omega) (by omega) (gj.mono (by omega)) (by omega)
    have hb : (!decide (joinF F0 F = F0)) = lacks (W.S j) (W.S i) F.id := by
      cases hlk : lacks (W.S j) (W.S i) F.id with
      | false => rw [decide_eq_true (hiff.mpr hlk)]; rfl
      | true => rw [decide_eq_false fun z => by have := hiff.mp z; rw [hlk] at this; cases this]; rfl
    rw [hb] at e
    exact ⟨h', _, e, H', fr, O.lent hj C' (SJ.mk2 oth hU1 hU2 hexU L' gj) hU2⟩
end
end
end MM
namespace MM
open PySem L2 PySem.W
end MM
namespace MM
open PySem L2 PySem.W
noncomputable section
def num0 (ns : List Int) (i : Nat) : Int := (lperm (cell ns 0) 6).getD i 0
def Wo0 (m : Nat) (num : Nat → Int) : Wo := ⟨m, num, fun _ => 0, [], fun _ => [], fun _ => []⟩
theorem lperm6 {c : Int} : (lperm c 6).length = 6 := by
  have := lperm_perm.length_eq (l₁ := lperm c 6)
  simpa using this
theorem num0_at {ns : List Int} {i : Nat} (hi : i < 6) : (lperm (cell ns 0) 6)[i]? = some (num0 ns i) := by
  unfold num0
  rw [List.getD_eq_getElem?_getD]
  have : i < (lperm (cell ns 0) 6).length := by rw [lperm6]; exact hi
  simp [this]
theorem Wo0_ok {ns : List Int} {m : Nat} (hm : m ≤ 6) : WOk (Wo0 m (num0 ns)) := by
  have mem : ∀ i, i < m → num0 ns i ∈ lperm (cell ns 0) 6 := fun i hi => List.mem_of_getElem? (num0_at (by omega))
  have nd : (lperm (cell ns 0) 6).Nodup := by
    rw [lperm_perm.nodup_iff]
    rw [List.Nodup, List.pairwise_map]
    exact List.nodup_range.imp fun h e => h (by omega)
  refine ⟨⟨fun i a e => (by cases e), fun a ha => (by cases ha), fun a ha => (by cases ha), fun a ha => (by cases ha), fun a ha => (by cases ha), fun a ha => (by cases ha), fun a ha => (by cases ha), fun a ha => (by cases ha), fun a ha => (by cases ha), fun a ha => (by cases ha), fun a ha => (by cases ha), fun a ha => (by cases ha), fun a ha => (by cases ha)⟩,
    fun i hi => ⟨fun a ha => (by cases ha), fun a ha => (by cases ha), List.Pairwise.nil⟩, fun i hi => ⟨List.Pairwise.nil, fun w F e => (by cases e), fun a ha => (by cases ha)⟩, fun i hi => ?_, fun i hi j hj e => ?_, fun a ha => (by cases ha), fun i hi => ?_, hm⟩
  · have hi : i < m := hi
    have := lperm_perm.mem_iff.mp (mem i hi)
    obtain ⟨k, hk, e⟩ := List.mem_map.mp this
    have := List.mem_range.mp hk
    show 0 ≤ num0 ns i ∧ num0 ns i ≤ 5
    rw [← e]
    have : (6 : Int).toNat = 6 := rfl
    omega
  · have hi : i < m := hi
    have hj : j < m := hj
    have e : num0 ns i = num0 ns j := e
    have h1 := num0_at (ns := ns) (i := i) (by omega)
    have h2 := num0_at (ns := ns) (i := j) (by omega)
    have li : i < (lperm (cell ns 0) 6).length := by rw [lperm6]; omega
    exact (List.getElem?_inj li nd).mp (by rw [h1, h2, e])
  · show (0 : Int) ≤ 0 ∧ (0 : Int) ≤ (([] : List Act).length : Nat)
    simp
theorem take_num {ns : List Int} {m : Nat} (hm : m ≤ 6) : (lperm (cell ns 0) 6).take m = (List.range m).map (num0 ns) := by
  apply List.ext_getElem?
  intro i
  rw [List.getElem?_take, List.getElem?_map]
  by_cases h : i < m
  · rw [if_pos h, num0_at (by omega), List.getElem?_range h]; rfl
  · rw [if_neg h, List.getElem?_eq_none (by simp; omega)]; rfl
end
end MM
namespace MM
open PySem L2 PySem.W
noncomputable section
def m_House_news_for : FM := mF 6 (sSeq (sAsg (eBi bDictT (aCons (eLc (iVal (eVar 1)) (gTp 2 (gsCons (gNm 3) (gsCons (gNm 4) (gsNil)))) (tYesM) (eDisp mkTup (aCons (eVar 3) (aCons (eVar 4) (aNil)))) [3, 4] frozen) (aNil))) (gNm 2))
  (sSeq (sAsg (eLc (iVal (eBi bSorted (aCons (eFld 0 2 (eVar 0)) (aNil)))) (gNm 3) (tYesM) (e2 vIx (eFld 0 2 (eVar 0)) (eVar 3)) [3] frozen) (gNm 4))
  (sRet (eBi bTuple (aCons (eLc (iVal (eVar 4)) (gNm 5) (tNotM (tTru (eCall m_has_heard (aCons (eGet2 (eVar 2) (e2 vIx (eVar 5) (eC (.int 0))) (eDisp mkTup (aNil))) (aCons (e2 vIx (eVar 5) (eC (.int 2))) (aNil)))))) (eVar 5) [5] frozen) (aNil))))))
def fileB (E : List (Mk × Fl)) (b : Mk → Bool) (w : Mk) : Val := match getM E w with
  | some F => eB (F, b w)
  | none => .non
def knownE (E : List (Mk × Fl)) (w : Mk) : List Mk := match getM E w with
  | some F => F.known
  | none => []
def newsB (E : List (Mk × Fl)) (kn : Mk → List Mk) (w : Mk) : Bool := !heard (kn w) (knownE E w)
section
variable {h : HM} {n : Nat} {own acts : Int} {E : List (Mk × Fl)} {w : Mk}
theorem pairs_M {K : List Mk} {kv : Mk → Val} : pairsBy tkey (K.map fun w => .tup [eM w, kv w]) = some (kvM id (K.map fun w => (w, kv w))) := by
  induction K with
  | nil => rfl
  | cons w K ih => simp only [List.map_cons, pairsBy, tkey_eM, ih, kvM]; rfl
theorem merge_M {d : List (Mk × Val)} (nd : (d.map (·.1)).Nodup) : mergeV [] (kvM id d) = kvM id d := by
  rw [merge_new (by
    have : (kvM id d).map (·.1) = (d.map (·.1)).map mKey := by simp [kvM, Function.comp_def]
    rw [this]
    exact List.pairwise_map.mpr (nd.imp fun h e => h (mKey_inj e))) (by simp)]
  rfl
theorem getM_of {α : Type} {K : List Mk} {kv : Mk → α} : getM (K.map fun w => (w, kv w)) w = if w ∈ K then some (kv w) else none := by
  unfold getM
  induction K with
  | nil => rfl
  | cons v K ih =>
    simp only [List.map_cons, List.find?_cons]
    by_cases e : v = w
    · subst e; simp
    · simp only [e, decide_false]
      rw [ih]
      have : ¬ w = v := fun z => e z.symm
      simp [this]
theorem he_news (H : HE h n own acts E) (hl : E.length ≤ 1000) {K : List Mk} (nd : K.Nodup) (kv : Mk → Val) (kn : Mk → List Mk) (hkv : ∀ w ∈ K, tupL (kv w) = some ((kn w).map eM) ∧ (kn w).length ≤ 1000) (hno : ∀ w, w ∉ K → kn w = []) (lK : K.length ≤ 1000)
    (gE : ∀ w F, getM E w = some F → F.id = w ∧ F.known.length ≤ 1000) :
    ∃ b g, m_House_news_for [.ref n, .tup (K.map fun w => .tup [eM w, kv w])] h = .ok (.tup (((srt (E.map (·.1))).filter (newsB E kn)).map (fileB E b))) (h ++ g) := by
  obtain ⟨D, e, q⟩ := H
  subst e
  have lD : D.length ≤ 1000 := by rw [← fg_len]; exact hl
  refine ⟨fun w => match getM D w with | some p => p.2 | none => false, [.dT (kvM id (K.map fun w => (w, kv w)))], ?_⟩
  have lid : (srt ((fg D).map (·.1))).length ≤ 1000 := by rw [srt_len]; simp; omega
  have Hg : HouseAt (h ++ [.dT (kvM id (K.map fun w => (w, kv w)))]) n ⟨own, acts, D⟩ := q.app
  have mem : ∀ w ∈ srt ((fg D).map (·.1)), ∃ F c, getM D w = some (F, c) := fun w hw => by
    have hw2 := mem_keysM.mp (srt_mem.mp hw)
    rw [fg_has, hasM_get, Option.isSome_iff_exists] at hw2
    obtain ⟨⟨F, c⟩, e⟩ := hw2
    exact ⟨F, c, e⟩
  have so := sorted_M Hg.sh (by show D.length ≤ 1000000; omega)
  have kD : (Hs.mk own acts D).shelf.map (·.1) = (fg D).map (·.1) := fg_keys.symm
  rw [kD] at so
  have dg : (h ++ [.dT (kvM id (K.map fun w => (w, kv w)))])[h.length]? = some (.dT (kvM id (K.map fun w => (w, kv w)))) := by simp
  have dgi : isDict h.length (h ++ [.dT (kvM id (K.map fun w => (w, kv w)))]) = true := by unfold isDict; rw [dg]
  have bd : ∀ h : HM, bDictT [.lst (K.map fun w => .tup [eM w, kv w])] h = .ok (.ref (List.length h)) (h ++ [.dT (kvM id (K.map fun w => (w, kv w)))]) := fun h => by
    have nd2 : ((K.map fun w => (w, kv w)).map (·.1)).Nodup := by simpa [Function.comp_def] using nd
    simp only [bDictT, seqL, Option.bind_some, pairs_M, merge_M nd2]
  have lc1 : lcL (srcItems (K.map fun w => .tup [eM w, kv w])) (gTp 2 (gsCons (gNm 3) (gsCons (gNm 4) (gsNil)))) tYesM (eDisp mkTup (aCons (eVar 3) (aCons (eVar 4) (aNil)))) [some (.ref n), some (.tup (K.map fun w => .tup [eM w, kv w])), none, none, none, none] (srcItems (K.map fun w => .tup [eM w, kv w])).len 0 h [] = .ok (K.map fun w => .tup [eM w, kv w]) h :=
    lc_mapM (fun w => .tup [eM w, kv w]) (fun w hw => ⟨[some (.ref n), some (.tup (K.map fun w => .tup [eM w, kv w])), none, some (eM w), some (kv w), none], rfl, by simp⟩) (by rw [sizeLine_eq]; omega)
  generalize hB : (fun w => match getM D w with | some p => p.2 | none => false : Mk → Bool) = bb
  have fb : ∀ w F c, getM D w = some (F, c) → fileB (fg D) bb w = eB (F, c) := fun w F c e => by
    have : getM (fg D) w = some F := by rw [fg_get, e]; rfl
    simp only [fileB, this, ← hB, e]
  have lc2 : ∀ a4, lcL (srcItems ((srt ((fg D).map (·.1))).map eM)) (gNm 3) tYesM (e2 vIx (eFld 0 2 (eVar 0)) (eVar 3)) [some (.ref n), some (.tup (K.map fun w => .tup [eM w, kv w])), some (.ref h.length), none, a4, none] (srcItems ((srt ((fg D).map (·.1))).map eM)).len 0 (h ++ [.dT (kvM id (K.map fun w => (w, kv w)))]) [] = .ok ((srt ((fg D).map (·.1))).map (fileB (fg D) bb)) (h ++ [.dT (kvM id (K.map fun w => (w, kv w)))]) := fun a4 =>
    lc_mapM (fileB (fg D) bb) (fun w hw => ⟨[some (.ref n), some (.tup (K.map fun w => .tup [eM w, kv w])), some (.ref h.length), some (eM w), a4, none], rfl, by
      obtain ⟨F, c, e⟩ := mem w hw
      rw [fb w F c e]
      simp [Hg.f2, vIx_M Hg.sh e]⟩) (by rw [sizeLine_eq]; omega)
  have lc3 : lcL (srcItems ((srt ((fg D).map (·.1))).map (fileB (fg D) bb))) (gNm 5) (tNotM (tTru (eCall m_has_heard (aCons (eGet2 (eVar 2) (e2 vIx (eVar 5) (eC (.int 0))) (eDisp mkTup (aNil))) (aCons (e2 vIx (eVar 5) (eC (.int 2))) (aNil)))))) (eVar 5) [some (.ref n), some (.tup (K.map fun w => .tup [eM w, kv w])), some (.ref h.length), none, some (.lst ((srt ((fg D).map (·.1))).map (fileB (fg D) bb))), none] (srcItems ((srt ((fg D).map (·.1))).map (fileB (fg D) bb))).len 0 (h ++ [.dT (kvM id (K.map fun w => (w, kv w)))]) [] = .ok (((srt ((fg D).map (·.1))).filter (newsB (fg D) kn)).map (fileB (fg D) bb)) (h ++ [.dT (kvM id (K.map fun w => (w, kv w)))]) := by
    refine lc_filterM (newsB (fg D) kn) (fileB (fg D) bb) (fun w hw => ⟨[some (.ref n), some (.tup (K.map fun w => .tup [eM w, kv w])), some (.ref h.length), none, some (.lst ((srt ((fg D).map (·.1))).map (fileB (fg D) bb))), some (fileB (fg D) bb w)], rfl, ?_, fun _ => by simp⟩) (by rw [sizeLine_eq]; omega)
    obtain ⟨F, c, e⟩ := mem w hw
    have eF : getM (fg D) w = some F := by rw [fg_get, e]; rfl
    obtain ⟨g1, g2⟩ := gE w F eF
    have i0 : ∀ h, vIx (eB (F, c)) (.int 0) h = .ok (eM w) h := fun h => by rw [← g1]; rfl
    have i2 : ∀ h, vIx (eB (F, c)) (.int 2) h = .ok (kB c F.known) h := fun h => rfl
    have dget : dGet h.length (eM w) (h ++ [.dT (kvM id (K.map fun w => (w, kv w)))]) = some ((if w ∈ K then some (kv w) else none).map id) := by rw [dGet_M dg, getM_of]
    have hd : ∀ v, tupL v = some ((kn w).map eM) → (kn w).length ≤ 1000 → m_has_heard [v, kB c F.known] (h ++ [.dT (kvM id (K.map fun w => (w, kv w)))]) = .ok (.bl (heard (kn w) F.known)) (h ++ [.dT (kvM id (K.map fun w => (w, kv w)))]) := fun v hv hl => at_heard hv (tupL_kB _ _) (by omega) (by omega)
    rw [fb w F c e]
    have nb : newsB (fg D) kn w = !heard (kn w) F.known := by simp only [newsB, knownE, eF]
    rw [nb]
    by_cases hK : w ∈ K
    · rw [if_pos hK] at dget
      have := hd (kv w) (hkv w hK).1 (hkv w hK).2
      simp [dgi, i0, i2, dget, this]
    · rw [if_neg hK] at dget
      have := hd (.tup []) (by rw [hno w hK]; rfl) (by rw [hno w hK]; simp)
      simp [dgi, i0, i2, dget, this]
  generalize (K.map fun w => Val.tup [eM w, kv w]) = KV at *
  generalize kvM id (K.map fun w => (w, kv w)) = DV at *
  unfold m_House_news_for mF
  simp [srcOf, wipeL, lc1, bd, Hg.f2, so, lc2, lc3, bTuple, seqL]
end
theorem news_lacks {A S T : List Act} {w : Mk} {F : Fl} {n : Nat} {ks : List Mk} (O : OkA A) (CS : Closed A S) (CT : Closed A T) (hF : IsLeaf T w F) (gF : Gd n F) (hks : ∀ a ∈ A, a.which = w → (within a.mark ks = true ↔ a ∈ S)) : heard ks F.known = !lacks S T w := by
  rw [Bool.eq_iff_iff, Bool.not_eq_true', ← Bool.not_eq_true, lacks_iff O CS CT]
  unfold heard
  rw [List.all_eq_true]
  constructor
  · rintro h ⟨a, ha, hw, hn⟩
    have k1 : within a.mark F.known = true := (hF.known a.mark).mpr ⟨a, ha, hw, rfl, Int.le_refl _⟩
    unfold within at k1
    rw [List.any_eq_true] at k1
    obtain ⟨m, hm, e⟩ := k1
    have hmw := h m hm
    have : within a.mark ks = true := by
      unfold within at hmw ⊢
      rw [List.any_eq_true] at hmw ⊢
      obtain ⟨j, hj, e2⟩ := hmw
      refine ⟨j, hj, ?_⟩
      simp at e e2 ⊢
      omega
    exact hn ((hks a (CT.sub a ha) hw).mp this)
  · intro h m hm
    obtain ⟨h1, h2⟩ := (mem_within gF.known.nd).mp hm
    obtain ⟨a, ha, hw, e1, e2⟩ := (hF.known m).mp h1
    have e3 : a.mark.2 = m.2 := by
      have : ¬ within (m.1, m.2 + 1) F.known = true := by rw [h2]; simp
      have : ¬ (m.2 + 1 ≤ a.mark.2) := fun z => this ((hF.known (m.1, m.2 + 1)).mpr ⟨a, ha, hw, e1, z⟩)
      omega
    have em : a.mark = m := Prod.ext e1 e3
    rw [← em, hks a (CT.sub a ha) hw]
    apply Classical.byContradiction
    intro hn
    exact h ⟨a, ha, hw, hn⟩
end
end MM
namespace MM
open PySem L2 PySem.Spec PyProof.Rows
/-- hs: of each exception whether the clause takes it (none: not told) -/
def sTry (hs : List (Option Bool)) (mb ms : SM) : SM := fun l h => match mb l h with
  | .exc c l' h' => (match hs[c]? with
    | some (some true) => ms l' h'
    | some (some false) => .exc c l' h'
    | _ => .bad)
  | r => r
/-- what the clause says to each exception -/
def ExH (G : Glob) (K : PySem.W.Frag) (cv : Value) : Nat → List (Option Bool) → Prop
  | _, [] => True
  | i, none :: bs => ExH G K cv (i + 1) bs
  | i, some b :: bs => (∃ C, G.exc i = some C ∧ PySem.W.exmOne K (.ref C) cv = some b) ∧ ExH G K cv (i + 1) bs
theorem ExH.at_ {G : Glob} {K : PySem.W.Frag} {cv : Value} : ∀ {hs : List (Option Bool)} {i k : Nat} {b : Bool}, ExH G K cv i hs → hs[k]? = some (some b) → ∃ C, G.exc (i + k) = some C ∧ PySem.W.exmOne K (.ref C) cv = some b
  | [], _, _, _, _, e => by cases e
  | none :: hs, i, 0, b, h, e => by cases e
  | none :: hs, i, k + 1, b, h, e => by
    obtain ⟨C, h1, h2⟩ := ExH.at_ (hs := hs) (i := i + 1) (k := k) h e
    exact ⟨C, by rw [show i + (k + 1) = i + 1 + k by omega]; exact h1, h2⟩
  | some _ :: hs, i, 0, b, h, e => by cases e; exact h.1
  | some _ :: hs, i, k + 1, b, h, e => by
    obtain ⟨C, h1, h2⟩ := ExH.at_ (hs := hs) (i := i + 1) (k := k) h.2 e
    exact ⟨C, by rw [show i + (k + 1) = i + 1 + k by omega]; exact h1, h2⟩
section
variable {X : Cx} {G : Glob} {W : WX} {x : Str} {cv : Value} {hs : List (Option Bool)} {mb ms : SM} {body suite : List Stmt} {b₀ : Stmt} {np pos pos' : Pos}
theorem ms_try (h1 : X.stack = X.env :: X.outer) (h2 : X.env.frame = some X.env.locals) (hc : Names X x cv) (tk : Takes X W) (hx : ExH G X.K cv 0 hs)
    (hb : ∀ (W' : WX) (pn : List (Addr × Obj)) (xe : Value → Shared → Prop), Takes (X.tr pn xe) W' → PassesOwn (model X.prog X.w) X.A X.env xe → MSs (X.tr pn xe) G W' body mb)
    (hsu : ∀ (a : Addr) (oe : Obj) (cls : Value) (d : Option Addr) (pn : List (Addr × Obj)), Zc cls d oe → (∃ vs, oe.data = .fields vs) → MSs (X.suite a ((a, oe) :: pn)) G W (b₀ :: suite) ms) :
    MS X G W (.Try body [.ExceptHandler (some (.Name x np)) none (b₀ :: suite) pos'] [] [] pos) (sTry hs mb ms) := by
  have base := ps_try_only (X := X) (np := np) (pos := pos) (pos' := pos') (tb := fun W' => tS G W' mb) (ts := fun _ _ _ => tS G W ms) (Wout := W) h1 h2 hc tk hb hsu
  refine ⟨fun pins s σ H D I ⟨r, h, l, q, hl, p⟩ => base.run pins s σ H D I ⟨r, h, l, q, hl, ?_⟩⟩
  unfold sTry at p
  cases em : mb l h with
  | nx l1 h1 => rw [em] at p; exact p
  | rt v h1 => rw [em] at p; exact p
  | bad => rw [em] at p; exact p
  | exc c l1 h1 =>
    rw [em] at p
    dsimp only at p
    intro r' H' s' C e' q' hl' hC
    cases eh : hs[c]? with
    | none => rw [eh] at p; exact p.elim
    | some ob =>
      rw [eh] at p
      cases ob with
      | none => exact p.elim
      | some b =>
        obtain ⟨C', g1, g2⟩ := hx.at_ eh
        rw [Nat.zero_add, hC] at g1
        cases g1
        refine ⟨b, g2, fun eb a ha => ?_, fun eb => ?_⟩
        · subst eb
          exact ⟨r', h1, l1, q', hl', PostS.shift e' p⟩
        · subst eb
          exact p r' H' s' C e' q' hl' hC
end
end MM
namespace MM
open PySem L2 PySem.W
theorem key3_inj {j k : (Int × Int) × Int} (h : key3 j = key3 k) : j = k := by
  unfold key3 at h
  simp only [NestedKey.tup.injEq, List.cons.injEq, NestedKey.num.injEq, and_true] at h
  exact Prod.ext (Prod.ext h.1.1 h.1.2) h.2
theorem hash3 (k : (Int × Int) × Int) (w w' : World) : (key3 k).hash w = (key3 k).hash w' := by
  simp only [key3, NestedKey.hash, NestedKey.hashes]
theorem DN.stay {a : Addr} {xs : List Ent3} {h1 h2 : Heap} (x : DN a xs h1) (k : ∀ o, h1.get? a = some o → h2.get? a = some o) : DN a xs h2 := by
  obtain ⟨h1, h2, h3, w, o, es, ep, h4, r⟩ := x
  exact ⟨h1, h2, h3, w, o, es, ep, k _ h4, r⟩
theorem DN.ok {P : Program} {w : World} {H : Hp} {h : Heap} {a : Addr} {xs : List Ent3} (x : DN a xs h) : ObjOk P w H h a (.ext (DN a xs)) := by
  obtain ⟨h1, h2, h3, w, o, es, ep, h4, r⟩ := id x
  exact ⟨x, ⟨o, h4⟩, fun _ _ y k => y.stay k⟩
theorem nested3 {P : Program} {w : World} {H : Hp} {h : Heap} {r : Ad} {x : Ent3} (ok : HOk P w H h) (z : H x.2.2 = some (.tup [.int x.1.1.1, .int x.1.1.2]) ∧ H x.2.1 = some (.tup [.ref x.2.2, .int x.1.2])) : (nestedKind P w).is h (key3 x.1) x.2.1 := by
  obtain ⟨z1, z2⟩ := z
  obtain ⟨_, i1, r1, o1, a1, b1, n1, c1⟩ := (show ObjOk P w H h x.2.2 (.tup _) from ok _ _ z1)
  obtain ⟨_, i2, r2, o2, a2, b2, n2, c2⟩ := (show ObjOk P w H h x.2.1 (.tup _) from ok _ _ z2)
  refine ⟨?_, by simp [key3, NestedKey.depth, NestedKey.depthAll]⟩
  cases r1 with
  | cons p1 r1 => cases r1 with
    | cons p2 r1 =>
      cases r1
      obtain ⟨t1, rfl⟩ := p1
      obtain ⟨t2, rfl⟩ := p2
      cases r2 with
      | cons p3 r2 => cases r2 with
        | cons p4 r2 =>
          cases r2
          obtain ⟨t4, rfl⟩ := p4
          obtain rfl := (show _ = Value.ref x.2.2 from p3)
          exact .tup a2 b2 c2 (.cons (.tup a1 b1 c1 (.cons (.int _ _) (.cons (.int _ _) .nil))) (.cons (.int _ _) .nil))
def toH (xs : List Ent3) : List (NestedKey × Addr × Value) := xs.map fun x => (key3 x.1, x.2.1, .bool true)
theorem DN.dict {P : Program} {w : World} {H : Hp} {h : Heap} {a : Addr} {xs : List Ent3} (ok : HOk P w H h) (d : DN a xs h) (hk : ∀ x ∈ xs, H x.2.2 = some (.tup [.int x.1.1.1, .int x.1.1.2]) ∧ H x.2.1 = some (.tup [.ref x.2.2, .int x.1.2])) : h.DictOfH (nestedKind P w) a (toH xs) := by
  obtain ⟨h1, h2, h3, w', o, es, ep, h4, h5, h6, h7⟩ := d
  refine ⟨o, es, ep, h4, h5, h6, ?_, fun y hy => ?_, ?_⟩
  · rw [h7, toH, List.map_map]
    apply List.map_congr_left
    intro x _
    show (⟨(key3 x.1).hash w', .ref x.2.1, .bool true⟩ : DictEntry) = ⟨(key3 x.1).hash w, .ref x.2.1, .bool true⟩
    rw [hash3 x.1 w' w]
  · unfold toH at hy
    obtain ⟨x, hx, rfl⟩ := List.mem_map.mp hy
    exact nested3 (r := ⟨[], [], []⟩) ok (hk x hx)
  · have : (toH xs).map (·.1) = (xs.map (·.1)).map key3 := by simp [toH, Function.comp_def]
    rw [this, List.Nodup, List.pairwise_map]
    exact h3.imp fun hne e => hne (key3_inj e)
section
variable {X : Cx} {G : Glob} {W : WX} {r r1 r2 : Ad} {H H1 H2 : Hp} {h h1 : HM} {l : Loc} {s : Shared} {a : Addr} {n : Nat} {pos : Pos} {o e : Expr} {mo : EM}
def eDictN : EM := fun _ h => .ok (.ref h.length) (h ++ [.dN []])
def isK3 : Val → Option ((Int × Int) × Int)
  | .tup [.tup [.int a, .int b], .int c] => some ((a, b), c)
  | _ => none
def setN (o i v : Val) (h : HM) : Option HM := match o, v with
  | .ref n, .bl true => (match h[n]? with
    | some (.dN ks) => if ks.length < sizeLine then (isK3 i).map fun k => h.set n (.dN (if k ∈ ks then ks else ks ++ [k])) else none
    | _ => none)
  | _, _ => none
def sSubN (mo mi mv : EM) : SM := fun l h => (mv l h).thn l fun y h1 => (mo l h1).thn l fun o h2 => (mi l h2).thn l fun i h3 => match setN o i y h3 with
  | some h4 => .nx l h4
  | none => .bad
end
end MM
namespace MM
open PySem L2 PySem.W
noncomputable section
def m_Meeting_init : FM := mF 7 (sSeq (sFldM 1 0 (eVar 0) (eDisp mkTup (aCons (eVar 1) (aCons (eVar 2) (aNil)))))
  (sSeq (sAsg (eLc (iVal (eMeth 0 m_House_news_for (eVar 2) (aCons (eMeth 0 m_House_heard (eVar 1) aNil) (aNil)))) (gNm 4) (tYesM) (eDisp mkTup (aCons (e2 vIx (eVar 4) (eC (.int 0))) (aCons (eC (.int 0)) (aNil)))) [4] frozen) (gNm 3))
  (sSeq (sAsg (e2 vAdd (eVar 3) (eLc (iVal (eMeth 0 m_House_news_for (eVar 1) (aCons (eMeth 0 m_House_heard (eVar 2) aNil) (aNil)))) (gNm 4) (tYesM) (eDisp mkTup (aCons (e2 vIx (eVar 4) (eC (.int 0))) (aCons (eC (.int 1)) (aNil)))) [4] frozen)) (gNm 3))
  (sFldM 1 1 (eVar 0) (eLc (iVal (eBi bSorted (aCons (eVar 3) (aNil)))) (gTp 2 (gsCons (gNm 5) (gsCons (gNm 6) (gsNil)))) (tYesM) (eDisp mkTup (aCons (eVar 6) (aCons (eVar 5) (aNil)))) [5, 6] fresh)))))
def m_Meeting_step : FM := mF 4 (sSeq (sIf (tNotM (tTru (eFld 1 1 (eVar 0)))) (sRet (eC .non)) (sNil))
  (sSeq (sAsg (eBm .list mPop (eFld 1 1 (eVar 0)) (aCons (eC (.int 0)) (aNil))) (gTp 2 (gsCons (gNm 1) (gsCons (gNm 2) (gsNil)))))
  (sSeq (sAsg (eC .non) (gNm 3))
  (sSeq (sTry [none, some true, some false, some false, none] (sAsg (eMeth 0 m_House_file (e2 vIx (eFld 1 0 (eVar 0)) (e2 vSub (eC (.int 1)) (eVar 1))) (aCons (eVar 2) (aNil))) (gNm 3)) (sAsg (eC .non) (gNm 3)))
  (sSeq (sIf (tOf (e2 vIsNot (eVar 3) (eC .non))) (sDrop (eMeth 0 m_House_take (e2 vIx (eFld 1 0 (eVar 0)) (eVar 1)) (aCons (eVar 3) (aNil)))) (sNil))
  (sRet (eDisp mkTup (aCons (eVar 1) (aCons (eVar 2) (aNil))))))))))
abbrev Row := Mk × Int
def eRow (r : Row) : Val := .tup [.int r.2, eM r.1]
/-- the rows of two: what the first one lacks, what the second one lacks -/
structure IsRows (S T : List Act) (R : List Row) : Prop where
  nd : R.Nodup
  sd : Sd R
  mem : ∀ r, r ∈ R ↔ (r.2 = 0 ∧ lacks S T r.1 = true) ∨ (r.2 = 1 ∧ lacks T S r.1 = true)
theorem IsRows.uniq {S T : List Act} {R Q : List Row} (h : IsRows S T R) (g : IsRows S T Q) : R = Q := sd_eq h.sd g.sd h.nd g.nd fun r => by rw [h.mem, g.mem]
def addN (ks : List Row) (k : Row) : List Row := if k ∈ ks then ks else ks ++ [k]
def rowStep (S : List Act) (c : Int) (ks : List Row) (a : Act) : List Row := if idxI a ∈ S.map idxI then ks else addN ks (a.which, c)
theorem addN_nd {ks : List Row} {k : Row} (h : ks.Nodup) : (addN ks k).Nodup := by
  unfold addN
  split
  · exact h
  · rename_i q
    rw [List.nodup_append]
    exact ⟨h, by simp, fun x hx y hy e => by simp at hy; subst hy e; exact q hx⟩
theorem addN_mem {ks : List Row} {k x : Row} : x ∈ addN ks k ↔ x ∈ ks ∨ x = k := by
  unfold addN
  split
  · rename_i q
    constructor
    · exact .inl
    · rintro (h | rfl)
      · exact h
      · exact q
  · simp
theorem rowFold_nd {S : List Act} {c : Int} : ∀ {L : List Act} {ks : List Row}, ks.Nodup → (L.foldl (rowStep S c) ks).Nodup
  | [], ks, h => h
  | a :: L, ks, h => rowFold_nd (L := L) (by unfold rowStep; split; exact h; exact addN_nd h)
theorem rowFold_mem {S : List Act} {c : Int} : ∀ {L : List Act} {ks : List Row} (x : Row), x ∈ L.foldl (rowStep S c) ks ↔ x ∈ ks ∨ (x.2 = c ∧ ∃ a ∈ L, a.which = x.1 ∧ idxI a ∉ S.map idxI)
  | [], ks, x => by simp
  | a :: L, ks, x => by
    have e : x ∈ rowStep S c ks a ↔ x ∈ ks ∨ (idxI a ∉ S.map idxI ∧ x = (a.which, c)) := by
      unfold rowStep
      by_cases q : idxI a ∈ S.map idxI
      · rw [if_pos q]; simp only [q, not_true_eq_false, false_and, or_false]
      · rw [if_neg q, addN_mem]; simp only [q, not_false_eq_true, true_and]
    rw [List.foldl_cons, rowFold_mem, e]
    constructor
    · rintro ((h | ⟨h1, h2⟩) | ⟨h1, b, hb, h2⟩)
      · exact .inl h
      · subst h2; exact .inr ⟨rfl, a, List.mem_cons_self, rfl, h1⟩
      · exact .inr ⟨h1, b, List.mem_cons_of_mem _ hb, h2⟩
    · rintro (h | ⟨h1, b, hb, h2, h3⟩)
      · exact .inl (.inl h)
      · rcases List.mem_cons.mp hb with rfl | hb
        · exact .inl (.inr ⟨h3, Prod.ext h2.symm h1⟩)
        · exact .inr ⟨h1, b, hb, h2, h3⟩
theorem rowFold_len {S : List Act} {c : Int} : ∀ {L : List Act} {ks : List Row}, (L.foldl (rowStep S c) ks).length ≤ ks.length + L.length
  | [], ks => by simp
  | a :: L, ks => by
    have := rowFold_len (S := S) (c := c) (L := L) (ks := rowStep S c ks a)
    have h2 : (rowStep S c ks a).length ≤ ks.length + 1 := by
      unfold rowStep addN
      split
      · omega
      · split <;> simp
    simp only [List.foldl_cons, List.length_cons]
    omega
theorem lacks_ex {S T : List Act} {w : Mk} : lacks S T w = true ↔ ∃ a ∈ T, a.which = w ∧ idxI a ∉ S.map idxI := by
  unfold lacks
  rw [List.any_eq_true]
  simp only [Bool.and_eq_true, decide_eq_true_eq, Bool.not_eq_true', decide_eq_false_iff_not]
theorem rows_is {S T : List Act} : IsRows S T (srt (S.foldl (rowStep T 1) (T.foldl (rowStep S 0) []))) := by
  refine ⟨srt_nd (rowFold_nd (rowFold_nd List.nodup_nil)), srt_srt _, fun r => ?_⟩
  rw [srt_mem, rowFold_mem, rowFold_mem, lacks_ex, lacks_ex]
  simp only [List.not_mem_nil, false_or]
section
variable {b : Nat} {W : Wo} {h : HM} {i j : Nat}
@[simp] theorem ev_eDictN {l : Loc} {h : HM} : eDictN l h = .ok (.ref h.length) (h ++ [.dN []]) := (rfl)
@[simp] theorem ev_sSubN {mo mi mv : EM} {l : Loc} {h : HM} : sSubN mo mi mv l h = (mv l h).thn l fun y h1 => (mo l h1).thn l fun o h2 => (mi l h2).thn l fun i h3 => match setN o i y h3 with
  | some h4 => .nx l h4
  | none => .bad := (rfl)
end
end
end MM
namespace MM
open PySem L2 PySem.W
noncomputable section
def Nx {α : Type} (x : Res α) : Prop := ∀ c h, x ≠ .exc c h
def NxE (m : EM) : Prop := ∀ l h, Nx (m l h)
def NxA (m : AM) : Prop := ∀ l h, Nx (m l h)
def NxT (m : TM) : Prop := ∀ l h, Nx (m l h)
def NxI (m : IM) : Prop := ∀ l h, Nx (m l h)
def NxF (m : FM) : Prop := ∀ xs h, Nx (m xs h)
def NxB (g : BOp) : Prop := ∀ xs h, Nx (g xs h)
def NxV (g : VOp) : Prop := ∀ a b h, Nx (g a b h)
def NxS (m : SM) : Prop := ∀ l h, ∀ c l' h', m l h ≠ .exc c l' h'
theorem Nx.ok {α : Type} {a : α} {h : HM} : Nx (.ok a h) := fun _ _ e => by cases e
theorem Nx.bad {α : Type} : Nx (.bad : Res α) := fun _ _ e => by cases e
theorem Nx.bind {α β : Type} {x : Res α} {k : α → HM → Res β} (hx : Nx x) (hk : ∀ a h, Nx (k a h)) : Nx (x.bind k) := by
  cases x with
  | ok a h => exact hk a h
  | exc c h => exact absurd rfl (hx c h)
  | bad => exact .bad
theorem nx_ofO {o : Option Val} {h : HM} : Nx (ofO o h) := by cases o <;> first | exact .ok | exact .bad
theorem NxE.var {i : Nat} : NxE (eVar i) := fun l h => by
  unfold eVar; split
  · exact .ok
  · exact .bad
theorem NxE.c {v : Val} : NxE (eC v) := fun _ _ => .ok
theorem NxE.e2 {g : VOp} {a b : EM} (hg : NxV g) (ha : NxE a) (hb : NxE b) : NxE (e2 g a b) := fun l h => (ha l h).bind fun x h1 => (hb l h1).bind fun y h2 => hg x y h2
theorem NxA.nil : NxA aNil := fun _ _ => .ok
theorem NxA.cons {a : EM} {t : AM} (ha : NxE a) (ht : NxA t) : NxA (aCons a t) := fun l h => (ha l h).bind fun x h1 => (ht l h1).bind fun xs h2 => .ok
theorem nx_mkTup {xs : List Val} {h : HM} : Nx (mkTup xs h) := by unfold mkTup; split; exact .ok; exact .bad
theorem NxE.tup {m : AM} (ha : NxA m) : NxE (eDisp mkTup m) := fun l h => (ha l h).bind fun xs h1 => nx_mkTup
theorem NxE.call {m : FM} {as : AM} (hm : NxF m) (ha : NxA as) : NxE (eCall m as) := fun l h => (ha l h).bind fun xs h1 => hm xs h1
theorem NxE.meth {c : Nat} {m : FM} {mo : EM} {as : AM} (hm : NxF m) (ho : NxE mo) (ha : NxA as) : NxE (eMeth c m mo as) := fun l h => (ho l h).bind fun o h1 => by
  split
  · exact (ha l h1).bind fun xs h2 => hm _ h2
  · exact .bad
theorem NxE.bi {g : BOp} {m : AM} (hg : NxB g) (ha : NxA m) : NxE (eBi g m) := fun l h => (ha l h).bind fun xs h1 => hg xs h1
theorem NxE.fld {c i : Nat} {m : EM} (hm : NxE m) : NxE (eFld c i m) := fun l h => (hm l h).bind fun v h1 => by
  unfold getF
  repeat' split
  all_goals first | exact .ok | exact .bad
theorem NxT.of {m : EM} (hm : NxE m) : NxT (tOf m) := fun l h => (hm l h).bind fun v h1 => by
  unfold toB; split
  · exact .ok
  · exact .bad
theorem nx_tru {v : Val} {h : HM} : Nx (truV v h) := by
  unfold truV
  repeat' split
  all_goals first | exact .ok | exact .bad
theorem NxT.tru {m : EM} (hm : NxE m) : NxT (tTru m) := fun l h => (hm l h).bind fun v h1 => nx_tru
theorem NxT.not {m : TM} (hm : NxT m) : NxT (tNotM m) := fun l h => (hm l h).bind fun v h1 => .ok
theorem NxT.yes : NxT tYesM := fun _ _ => .ok
theorem NxI.val {m : EM} (hm : NxE m) : NxI (iVal m) := fun l h => (hm l h).bind fun v h1 => by
  unfold srcOf
  repeat' split
  all_goals first | exact .ok | exact .bad
theorem nx_lcL {src : Src} {g : GM} {tt : TM} {te : EM} {l : Loc} (ht : NxT tt) (he : NxE te) : ∀ (n i : Nat) (h : HM) (acc : List Val), Nx (lcL src g tt te l n i h acc)
  | 0, i, h, acc => by unfold lcL; split; exact .ok; exact .bad
  | n + 1, i, h, acc => by
    unfold lcL
    split
    · exact .bad
    · split
      · exact .bad
      · rename_i l1 _
        split
        · split
          · split
            · exact nx_lcL ht he n _ _ _
            · exact .bad
          · exact .bad
        · exact nx_lcL ht he n _ _ _
        · exact .bad
theorem NxE.lc {mi : IM} {g : GM} {tt : TM} {te : EM} {vs : List Nat} (hi : NxI mi) (ht : NxT tt) (he : NxE te) : NxE (eLc mi g tt te vs frozen) := fun l h => (hi l h).bind fun src h1 => (nx_lcL ht he _ _ _ _).bind fun xs h2 => .ok
theorem NxE.lcM {mi : IM} {g : GM} {tt : TM} {te : EM} {vs : List Nat} (hi : NxI mi) (ht : NxT tt) (he : NxE te) : NxE (eLc mi g tt te vs fresh) := fun l h => (hi l h).bind fun src h1 => (nx_lcL ht he _ _ _ _).bind fun xs h2 => .ok
theorem NxE.get2 {a b c : EM} (ha : NxE a) (hb : NxE b) (hc : NxE c) : NxE (eGet2 a b c) := fun l h => (ha l h).bind fun o h1 => by
  cases o with
  | ref n =>
    dsimp only
    split
    · refine (hb l h1).bind fun y h2 => (hc l h2).bind fun z h3 => ?_
      cases dGet n y h3 with
      | none => exact .bad
      | some o => cases o <;> exact .ok
    · exact .bad
  | _ => exact .bad
theorem NxE.and {a b : EM} (ha : NxE a) (hb : NxE b) : NxE (eAndM a b) := fun l h => (ha l h).bind fun x h1 => by
  refine Nx.bind (by unfold toB; split; exact .ok; exact .bad) fun c h2 => ?_
  split
  · exact hb l h2
  · exact .ok
theorem nx_vIx : NxV vIx := fun a b h => by
  unfold vIx
  repeat' split
  all_goals first | exact .ok | exact .bad | exact nx_ofO
theorem nx_vEq : NxV vEq := fun a b h => by
  unfold vEq
  repeat' split
  all_goals first | exact .ok | exact .bad
theorem nx_vGe : NxV vGe := fun a b h => by
  unfold vGe
  repeat' split
  all_goals first | exact .ok | exact .bad
theorem nx_vAdd : NxV vAdd := fun a b h => by
  unfold vAdd
  repeat' split
  all_goals first | exact .ok | exact .bad
theorem nx_sorted : NxB bSorted := fun xs h => by
  unfold bSorted
  repeat' split
  all_goals first | exact .ok | exact .bad
theorem nx_tuple : NxB bTuple := fun xs h => by
  unfold bTuple
  repeat' split
  all_goals first | exact .ok | exact .bad
theorem nx_dictT : NxB bDictT := fun xs h => by
  unfold bDictT
  repeat' split
  all_goals first | exact .ok | exact .bad
theorem nx_all : NxB bAll := fun xs h => by
  unfold bAll
  repeat' split
  all_goals first | exact .ok | exact .bad
theorem nx_any : NxB bAny := fun xs h => by
  unfold bAny
  repeat' split
  all_goals first | exact .ok | exact .bad
theorem NxS.ret {m : EM} (hm : NxE m) : NxS (sRet m) := fun l h c l' h' e => by
  unfold sRet at e
  cases x : m l h with
  | ok a h1 => rw [x] at e; cases e
  | exc c h1 => exact hm l h _ _ x
  | bad => rw [x] at e; cases e
theorem NxS.asg {m : EM} {g : GM} (hm : NxE m) : NxS (sAsg m g) := fun l h c l' h' e => by
  unfold sAsg at e
  cases x : m l h with
  | ok a h1 =>
    rw [x] at e
    simp only [Res.thn_ok] at e
    split at e <;> cases e
  | exc c h1 => exact hm l h _ _ x
  | bad => rw [x] at e; cases e
theorem NxS.fld {c i : Nat} {mo mv : EM} (ho : NxE mo) (hv : NxE mv) : NxS (sFldM c i mo mv) := fun l h c' l' h' e => by
  unfold sFldM at e
  cases x : mv l h with
  | ok a h1 =>
    rw [x] at e
    simp only [Res.thn_ok] at e
    cases y : mo l h1 with
    | ok b h2 =>
      rw [y] at e
      simp only [Res.thn_ok] at e
      split at e <;> cases e
    | exc c h1 => exact ho l _ _ _ y
    | bad => rw [y] at e; cases e
  | exc c h1 => exact hv l h _ _ x
  | bad => rw [x] at e; cases e
theorem NxS.seq {a b : SM} (ha : NxS a) (hb : NxS b) : NxS (sSeq a b) := fun l h c l' h' e => by
  rw [ev_sSeq] at e
  cases x : a l h with
  | nx l1 h1 => rw [x] at e; exact hb l1 h1 _ _ _ e
  | rt v h1 => rw [x] at e; cases e
  | exc c l1 h1 => exact ha l h _ _ _ x
  | bad => rw [x] at e; cases e
theorem NxF.of {n : Nat} {b : SM} (hb : NxS b) : NxF (mF n b) := fun xs h c h' e => by
  unfold mF at e
  split at e <;> first | (cases e; done) | (rename_i x; exact hb _ _ _ _ _ x)
theorem nx_is_within : NxF m_is_within := .of (.ret (.bi nx_any (.cons (.lc (.val .var) .yes (.and (.e2 nx_vEq .var (.e2 nx_vIx .var .c)) (.e2 nx_vGe .var (.e2 nx_vIx .var .c)))) .nil)))
theorem nx_has_heard : NxF m_has_heard := .of (.ret (.bi nx_all (.cons (.lc (.val .var) .yes (.call nx_is_within (.cons .var (.cons .var .nil)))) .nil)))
theorem nx_news_for : NxF m_House_news_for := .of (.seq (.asg (.bi nx_dictT (.cons (.lc (.val .var) .yes (.tup (.cons .var (.cons .var .nil)))) .nil)))
  (.seq (.asg (.lc (.val (.bi nx_sorted (.cons (.fld .var) .nil))) .yes (.e2 nx_vIx (.fld .var) .var)))
  (.ret (.bi nx_tuple (.cons (.lc (.val .var) (.not (.tru (.call nx_has_heard (.cons (.get2 .var (.e2 nx_vIx .var .c) (.tup .nil)) (.cons (.e2 nx_vIx .var .c) .nil))))) .var) .nil)))))
theorem nx_heard : NxF m_House_heard := .of (.ret (.bi nx_tuple (.cons (.lc (.val (.bi nx_sorted (.cons (.fld .var) .nil))) .yes (.tup (.cons .var (.cons (.e2 nx_vIx (.e2 nx_vIx (.fld .var) .var) .c) .nil)))) .nil)))
theorem nx_meeting : NxF m_Meeting_init := .of (.seq (.fld .var (.tup (.cons .var (.cons .var .nil))))
  (.seq (.asg (.lc (.val (.meth nx_news_for .var (.cons (.meth nx_heard .var .nil) .nil))) .yes (.tup (.cons (.e2 nx_vIx .var .c) (.cons .c .nil)))))
  (.seq (.asg (.e2 nx_vAdd .var (.lc (.val (.meth nx_news_for .var (.cons (.meth nx_heard .var .nil) .nil))) .yes (.tup (.cons (.e2 nx_vIx .var .c) (.cons .c .nil))))))
  (.fld .var (.lcM (.val (.bi nx_sorted (.cons .var .nil))) .yes (.tup (.cons .var (.cons .var .nil))))))))
theorem nx_Meeting_init : ∀ xs h c h', m_Meeting_init xs h ≠ .exc c h' := nx_meeting
end
end MM
namespace MM
open PySem L2 PySem.W
noncomputable section
@[simp] theorem ev_sTry {hs : List (Option Bool)} {mb ms : SM} {l : Loc} {h : HM} : sTry hs mb ms l h = match mb l h with
  | .exc c l' h' => (match hs[c]? with
    | some (some true) => ms l' h'
    | some (some false) => .exc c l' h'
    | _ => .bad)
  | r => r := (rfl)
structure MeetAt (h : HM) (mt a b L : Nat) (R : List Row) : Prop where
  ins : h[mt]? = some (.ins 1 [.tup [.ref a, .ref b], .ref L])
  rows : h[L]? = some (.lst (R.map eRow))
theorem MeetAt.app {h g : HM} {mt a b L : Nat} {R : List Row} (M : MeetAt h mt a b L R) : MeetAt (h ++ g) mt a b L R :=
  ⟨by rw [List.getElem?_append_left (List.getElem?_eq_some_iff.mp M.ins).1]; exact M.ins, by rw [List.getElem?_append_left (List.getElem?_eq_some_iff.mp M.rows).1]; exact M.rows⟩
section
variable {b : Nat} {W : Wo} {h : HM} {i j mt L : Nat} {R : List Row}
theorem MeetAt.isI {a c : Nat} (M : MeetAt h mt a c L R) : isIns 1 (.ref mt) h = true := by simp [isIns, M.ins]
theorem MeetAt.f0 {a c : Nat} (M : MeetAt h mt a c L R) : getF 1 0 (.ref mt) h = .ok (.tup [.ref a, .ref c]) h := by simp [getF, M.ins]
theorem MeetAt.f1 {a c : Nat} (M : MeetAt h mt a c L R) : getF 1 1 (.ref mt) h = .ok (.ref L) h := by simp [getF, M.ins]
theorem heard_pairs {E : List (Mk × Fl)} {bb : Mk → Bool} : (srt (E.map (·.1))).map (heardB E bb) = (srt (E.map (·.1))).map fun w => .tup [eM w, kB (bb w) (knownE E w)] := by
  apply List.map_congr_left
  intro w hw
  have hw2 := mem_keysM.mp (srt_mem.mp hw)
  rw [hasM_get, Option.isSome_iff_exists] at hw2
  obtain ⟨F, hF⟩ := hw2
  simp only [heardB, knownE, hF]
theorem knownE_no {E : List (Mk × Fl)} {w : Mk} (hw : w ∉ srt (E.map (·.1))) : knownE E w = [] := by
  rw [srt_mem, mem_keysM, hasM_get] at hw
  cases e : getM E w with
  | none => simp only [knownE, e]
  | some F => rw [e] at hw; exact absurd rfl hw
/-- the ids that one lacks, as the other one tells -/
def newsOf (W : Wo) (i j : Nat) : List Mk := (srt ((W.E j).map (·.1))).filter (newsB (W.E j) (knownE (W.E i)))
theorem mem_newsOf (O : WOk W) (hi : i < W.m) (hj : j < W.m) (w : Mk) : w ∈ newsOf W i j ↔ lacks (W.S i) (W.S j) w = true := by
  have CI := O.cl i hi
  have CJ := O.cl j hj
  unfold newsOf
  rw [List.mem_filter, srt_mem, (O.sh j hj).keys]
  have key : ∀ F, getM (W.E j) w = some F → newsB (W.E j) (knownE (W.E i)) w = lacks (W.S i) (W.S j) w := fun F hF => by
    obtain ⟨_, LF, n, gF⟩ := (O.sh j hj).ok w F hF
    have ks : ∀ a ∈ W.A, a.which = w → (within a.mark (knownE (W.E i) w) = true ↔ a ∈ W.S i) := fun a ha hw => by
      cases e : getM (W.E i) w with
      | none =>
        have : knownE (W.E i) w = [] := by simp only [knownE, e]
        rw [this]
        constructor
        · intro z; cases z
        · intro z
          obtain ⟨G, hG⟩ := (O.sh i hi).all a z
          rw [hw, e] at hG; cases hG
      | some G =>
        have : knownE (W.E i) w = G.known := by simp only [knownE, e]
        rw [this]
        exact ((O.sh i hi).ok w G e).2.1.heard O.ok CI ha hw
    have := news_lacks O.ok CI CJ LF gF ks
    have e2 : knownE (W.E j) w = F.known := by simp only [knownE, hF]
    unfold newsB
    rw [e2, this, Bool.not_not]
  constructor
  · rintro ⟨h1, h2⟩
    obtain ⟨a, ha, rfl⟩ := List.mem_map.mp h1
    obtain ⟨F, hF⟩ := (O.sh j hj).all a ha
    rw [key F hF] at h2; exact h2
  · intro h
    obtain ⟨a, ha, hw, _⟩ := (lacks_iff O.ok CI CJ).mp h
    obtain ⟨F, hF⟩ := (O.sh j hj).all a ha
    rw [hw] at hF
    exact ⟨List.mem_map.mpr ⟨a, ha, hw⟩, by rw [key F hF]; exact h⟩
theorem newsOf_nd (O : WOk W) (hj : j < W.m) : (newsOf W i j).Nodup := (srt_nd (O.sh j hj).nd).filter _
end
end
end MM
namespace MM
open PySem L2 PySem.W
noncomputable section
theorem up_self {α : Type} {f : Nat → α} {i : Nat} : up f i (f i) = f := by
  funext j
  unfold up
  split
  · rename_i e; rw [e]
  · rfl
theorem up_up {α : Type} {f : Nat → α} {i : Nat} {v w : α} : up (up f i v) i w = up f i w := by
  funext j
  unfold up
  split <;> rfl
/-- what a meeting does to the world -/
structure Met (W W' : Wo) (i j : Nat) : Prop where
  m : W'.m = W.m
  num : W'.num = W.num
  ct : W'.ct = W.ct
  A : W'.A = W.A
  oth : ∀ k, k ≠ i → k ≠ j → W'.S k = W.S k
  grow : ∀ k a, a ∈ W.S k → a ∈ W'.S k
  sub : ∀ k a, a ∈ W'.S k → a ∈ W.S k ∨ a ∈ W.S i ∨ a ∈ W.S j
theorem Met.trans {W W' W2 : Wo} {i j : Nat} (a : Met W W' i j) (b : Met W' W2 i j) : Met W W2 i j :=
  ⟨b.m.trans a.m, b.num.trans a.num, b.ct.trans a.ct, b.A.trans a.A, fun k h1 h2 => (b.oth k h1 h2).trans (a.oth k h1 h2), fun k x h => b.grow k x (a.grow k x h), fun k x h => by
    rcases b.sub k x h with h | h | h
    · exact a.sub k x h
    · rcases a.sub i x h with h | h | h
      · exact .inr (.inl h)
      · exact .inr (.inl h)
      · exact .inr (.inr h)
    · rcases a.sub j x h with h | h | h
      · exact .inr (.inr h)
      · exact .inr (.inl h)
      · exact .inr (.inr h)⟩
section
variable {b : Nat} {W : Wo} {h : HM} {i j mt L gi to : Nat} {R : List Row} {w : Mk} {c : Int} {F : Fl}
theorem WAt.high {h' : HM} (H : WAt b W h) (k : ∀ q, q ≤ b + 4 * W.m + 3 → h'[q]? = h[q]?) : WAt b W h' := by
  refine ⟨(k _ (by omega)).trans H.hs, ?_, ?_, (k _ (by omega)).trans H.bs, fun i hi => ?_, fun i hi => (k _ (by omega)).trans (H.bk i hi)⟩
  · exact (k (b + 3 * W.m + 1) (by omega)).trans H.cs
  · exact (k (b + 3 * W.m + 2) (by omega)).trans H.as
  · obtain ⟨D, e, q⟩ := H.hh i hi
    exact ⟨D, e, ⟨(k _ (by omega)).trans q.ins, (k _ (by omega)).trans q.sh⟩⟩
theorem pop_at {x : Val} {xs : List Val} (hn : h[L]? = some (.lst (x :: xs))) : mPop (.ref L) [.int 0] h = .ok x (h.set L (.lst xs)) := by
  have es : seqIndex? 0 (x :: xs).length = some 0 := by
    unfold seqIndex?
    have : ¬ ((0 : Int) < 0) := by omega
    simp only [this, if_false]
    rw [if_pos (by simp)]
    rfl
  simp only [mPop, hn, es]
  rw [if_pos (by omega)]
  rfl
theorem tru_ref {xs : List Val} (hn : h[L]? = some (.lst xs)) : truV (.ref L) h = .ok (!xs.isEmpty) h := by
  simp only [truV, hn]
theorem kd_ref {xs : List Val} (hn : h[L]? = some (.lst xs)) : isKd .list (.ref L) h = true := by simp [isKd, seqL, hn]
/-- no row is left -/
theorem at_stepN {a a' : Nat} (M : MeetAt h mt a a' L []) : m_Meeting_step [.ref mt] h = .ok .non h := by
  have t := tru_ref M.rows
  unfold m_Meeting_step mF
  simp [M.f1, t]
theorem IsRows.head (O : WOk W) (hi : i < W.m) (hj : j < W.m) (hR : IsRows (W.S i) (W.S j) ((w, c) :: R)) : ∃ gi to, ((c = 0 ∧ to = i ∧ gi = j) ∨ (c = 1 ∧ to = j ∧ gi = i)) ∧ ∃ a ∈ W.S gi, a.which = w := by
  rcases (hR.mem (w, c)).mp List.mem_cons_self with ⟨h1, h2⟩ | ⟨h1, h2⟩
  · obtain ⟨a, ha, hw, _⟩ := (lacks_iff O.ok (O.cl i hi) (O.cl j hj)).mp h2
    exact ⟨j, i, .inl ⟨h1, rfl, rfl⟩, a, ha, hw⟩
  · obtain ⟨a, ha, hw, _⟩ := (lacks_iff O.ok (O.cl j hj) (O.cl i hi)).mp h2
    exact ⟨i, j, .inr ⟨h1, rfl, rfl⟩, a, ha, hw⟩
end
end
end MM
namespace MM
open PySem L2 PySem.W
noncomputable section
section
variable {b : Nat} {W : Wo} {h : HM} {i j : Nat}
theorem WAt.len (H : WAt b W h) : b + 4 * W.m + 3 < h.length := (List.getElem?_eq_some_iff.mp H.bs).1
theorem IsRows.len (O : WOk W) (hi : i < W.m) (hj : j < W.m) {R : List Row} (hR : IsRows (W.S i) (W.S j) R) : R.length ≤ 2 * W.A.length := by
  have e := hR.uniq rows_is
  have h1 := rowFold_len (S := W.S i) (c := 0) (L := W.S j) (ks := [])
  have h2 := rowFold_len (S := W.S j) (c := 1) (L := W.S i) (ks := (W.S j).foldl (rowStep (W.S i) 0) [])
  have h3 := (O.cl i hi).len O.ok
  have h4 := (O.cl j hj).len O.ok
  rw [e, srt_len]
  simp only [List.length_nil] at h1
  omega
end
end
end MM
namespace MM
open PySem L2 PySem.W
noncomputable section
def m_Meeting_rest_w0 : SM := sAsg (e2 vAdd (eVar 1) (eC (.int 1))) (gNm 1)
def m_Meeting_rest : FM := mF 2 (sSeq (sAsg (eC (.int 0)) (gNm 1))
  (sSeq (whL (tOf (e2 vIsNot (eMeth 1 m_Meeting_step (eVar 0) aNil) (eC .non))) m_Meeting_rest_w0 100000)
  (sRet (eVar 1))))
theorem keys_get {E : List (Mk × Fl)} {w : Mk} (hw : w ∈ srt (E.map (·.1))) : ∃ F, getM E w = some F := by
  have hw2 := mem_keysM.mp (srt_mem.mp hw)
  rw [hasM_get, Option.isSome_iff_exists] at hw2
  exact hw2
section
variable {b : Nat} {W : Wo} {h : HM} {i j mt L : Nat} {R : List Row}
/-- who heard of the same has the same files -/
theorem same_shelf {A S T : List Act} {E1 E2 : List (Mk × Fl)} (h1 : Shelf S E1) (h2 : Shelf T E2) (hS : ∀ a, a ∈ S ↔ a ∈ T) : srt (E1.map (·.1)) = srt (E2.map (·.1)) ∧ ∀ w, getM E1 w = getM E2 w := by
  constructor
  · refine sd_eq (srt_srt _) (srt_srt _) (srt_nd h1.nd) (srt_nd h2.nd) fun w => ?_
    rw [srt_mem, srt_mem, h1.keys, h2.keys, List.mem_map, List.mem_map]
    constructor
    · rintro ⟨a, ha, e⟩; exact ⟨a, (hS a).mp ha, e⟩
    · rintro ⟨a, ha, e⟩; exact ⟨a, (hS a).mpr ha, e⟩
  · intro w
    cases e1 : getM E1 w with
    | some F =>
      obtain ⟨⟨a, ha, hw⟩, L, n, g⟩ := h1.ok w F e1
      obtain ⟨G, e2⟩ := h2.all a ((hS a).mp ha)
      rw [hw] at e2
      obtain ⟨_, L2, n2, g2⟩ := h2.ok w G e2
      rw [e2, L.uniq L2 g g2 (fun x _ => hS x) ⟨a, ha, hw⟩]
    | none =>
      cases e2 : getM E2 w with
      | none => rfl
      | some G =>
        obtain ⟨⟨a, ha, hw⟩, _⟩ := h2.ok w G e2
        obtain ⟨F, e3⟩ := h1.all a ((hS a).mpr ha)
        rw [hw, e1] at e3; cases e3
/-- no row: both heard of the same -/
theorem IsRows.none (O : WOk W) (hi : i < W.m) (hj : j < W.m) (hR : IsRows (W.S i) (W.S j) []) (a : Act) : a ∈ W.S i ↔ a ∈ W.S j := by
  have CI := O.cl i hi
  have CJ := O.cl j hj
  constructor
  · intro ha
    apply Classical.byContradiction
    intro hn
    have := (hR.mem (a.which, 1)).mpr (.inr ⟨rfl, (lacks_iff O.ok CJ CI).mpr ⟨a, ha, rfl, hn⟩⟩)
    cases this
  · intro ha
    apply Classical.byContradiction
    intro hn
    have := (hR.mem (a.which, 0)).mpr (.inl ⟨rfl, (lacks_iff O.ok CI CJ).mpr ⟨a, ha, rfl, hn⟩⟩)
    cases this
def toOf (i j : Nat) (c : Int) : Nat := if c = 0 then i else j
def giOf (i j : Nat) (c : Int) : Nat := if c = 0 then j else i
def tellRows (i j : Nat) (S : Nat → List Act) : List Row → Nat → List Act
  | [] => S
  | r :: R => tellRows i j (up S (toOf i j r.2) (tellS (S (toOf i j r.2)) (S (giOf i j r.2)) r.1)) R
end
end
end MM
namespace MM
open PySem L2 PySem.W
noncomputable section
/-- rows whose giver knows of the file -/
def Good (S : Nat → List Act) (i j : Nat) (R : List Row) : Prop := ∀ r ∈ R, (r.2 = 0 ∨ r.2 = 1) ∧ ∃ a ∈ S (giOf i j r.2), a.which = r.1
theorem Good.drop {S : Nat → List Act} {i j n : Nat} {R : List Row} (h : Good S i j R) : Good S i j (R.drop n) := fun r hr => h r (List.mem_of_mem_drop hr)
theorem Good.grow {S T : Nat → List Act} {i j : Nat} {R : List Row} (h : Good S i j R) (g : ∀ k a, a ∈ S k → a ∈ T k) : Good T i j R := fun r hr => by
  obtain ⟨h1, a, ha, hw⟩ := h r hr
  exact ⟨h1, a, g _ a ha, hw⟩
section
variable {b : Nat} {W : Wo} {h : HM} {i j mt L : Nat} {R : List Row}
theorem IsRows.good (O : WOk W) (hi : i < W.m) (hj : j < W.m) (hR : IsRows (W.S i) (W.S j) R) : Good W.S i j R := fun r hr => by
  rcases (hR.mem r).mp hr with ⟨h1, h2⟩ | ⟨h1, h2⟩
  · obtain ⟨a, ha, hw, _⟩ := (lacks_iff O.ok (O.cl i hi) (O.cl j hj)).mp h2
    exact ⟨.inl h1, a, by rw [h1]; exact ha, hw⟩
  · obtain ⟨a, ha, hw, _⟩ := (lacks_iff O.ok (O.cl j hj) (O.cl i hi)).mp h2
    exact ⟨.inr h1, a, by rw [h1]; exact ha, hw⟩
end
end
end MM
namespace MM
open PySem L2 PySem.W
noncomputable section
def m_House_shown_f0 : SM := sSeq (sAsg (eCall m_name_of (aCons (e2 vIx (eFld 0 2 (eVar 0)) (eVar 3)) (aNil))) (gNm 4))
  (sSeq (sSub (eVar 1) (eVar 4) (e2 vAdd (eGet2 (eVar 1) (eVar 4) (eC (.int 0))) (eC (.int 1))))
  (sSeq (sIf (tOf (e2 vGt (e2 vIx (eVar 1) (eVar 4)) (eC (.int 1)))) (sAsg (e2 vAdd (e2 vAdd (eVar 4) (eC (.str "~"))) (eBi bStr (aCons (e2 vIx (eVar 1) (eVar 4)) (aNil)))) (gNm 4)) (sNil))
  (sDrop (eBm .list mAppend (eVar 2) (aCons (eDisp mkTup (aCons (eVar 4) (aCons (eVar 3) (aNil)))) (aNil))))))
def m_House_shown : FM := mF 5 (sSeq (sAsg (eDictK) (gNm 1))
  (sSeq (sAsg (eDisp mkRef (aNil)) (gNm 2))
  (sSeq (sFor (iVal (eMeth 0 m_House_ids (eVar 0) aNil)) (gNm 3) m_House_shown_f0)
  (sRet (eBi bTuple (aCons (eBi bSorted (aCons (eVar 2) (aNil))) (aNil)))))))
def m_House_quarrels : FM := mF 4 (sSeq (sAsg (eLc (iVal (eMeth 0 m_House_ids (eVar 0) aNil)) (gNm 2) (tYesM) (eDisp mkTup (aCons (eVar 2) (aCons (eCall m_quarrels_of (aCons (e2 vIx (eFld 0 2 (eVar 0)) (eVar 2)) (aNil))) (aNil)))) [2] frozen) (gNm 1))
  (sRet (eBi bTuple (aCons (eLc (iVal (eVar 1)) (gNm 3) (tOf (e2 vNe (e2 vIx (eVar 3) (eC (.int 1))) (eDisp mkTup (aNil)))) (eVar 3) [3] frozen) (aNil)))))
theorem getK_put {κ : Type} [DecidableEq κ] {kvs : List (κ × Val)} {k j : κ} {v : Val} : getK (putV kvs k v) j = if j = k then some v else getK kvs j := by
  unfold putV
  split
  · rename_i ha
    induction kvs with
    | nil => simp at ha
    | cons x xs ih =>
      have hm : ((x :: xs).map fun kv => if kv.1 = k then (kv.1, v) else kv) = (if x.1 = k then (x.1, v) else x) :: xs.map fun kv => if kv.1 = k then (kv.1, v) else kv := rfl
      rw [hm]
      by_cases hx : x.1 = k
      · rw [if_pos hx]
        by_cases hj : j = k
        · subst hj; simp [getK, hx]
        · have : ¬ x.1 = j := fun e => hj (e.symm.trans hx)
          rw [if_neg hj]
          have e1 : ∀ (a : Val) (ys : List (κ × Val)), getK ((x.1, a) :: ys) j = getK ys j := fun a ys => by simp [getK, this]
          have e2' : getK (x :: xs) j = getK xs j := by simp [getK, this]
          rw [e1, e2']
          by_cases hh : (xs.any fun kv => decide (kv.1 = k)) = true
          · have := ih hh
            rw [if_neg hj] at this
            exact this
          · have : (xs.map fun kv => if kv.1 = k then (kv.1, v) else kv) = xs := by
              conv => rhs; rw [← List.map_id xs]
              refine List.map_congr_left fun y hy => ?_
              rw [if_neg]
              · rfl
              · intro e
                apply hh
                rw [List.any_eq_true]
                exact ⟨y, hy, by simp [e]⟩
            rw [this]
      · rw [if_neg hx]
        have hh : (xs.any fun kv => decide (kv.1 = k)) = true := by simpa [hx] using ha
        by_cases hxj : x.1 = j
        · have hj : ¬ j = k := fun e => hx (hxj.trans e)
          simp [getK, hxj, hj]
        · have e1 : ∀ ys : List (κ × Val), getK (x :: ys) j = getK ys j := fun ys => by simp [getK, hxj]
          rw [e1, e1]
          exact ih hh
  · rename_i ha
    by_cases hj : j = k
    · subst hj
      have : kvs.find? (fun kv => decide (kv.1 = j)) = none := by
        rw [List.find?_eq_none]
        intro y hy e
        apply ha
        rw [List.any_eq_true]
        exact ⟨y, hy, e⟩
      simp [getK, List.find?_append, this]
    · have : ¬ k = j := fun e => hj e.symm
      simp [getK, List.find?_append, hj, this]
theorem putV_len {κ : Type} [DecidableEq κ] {kvs : List (κ × Val)} {k : κ} {v : Val} : (putV kvs k v).length ≤ kvs.length + 1 := by
  unfold putV
  split <;> simp
def cntS (P : List (Str × Mk)) (s : Str) : Nat := (P.filter fun p => decide (p.1 = s)).length
theorem cntS_snoc {P : List (Str × Mk)} {p : Str × Mk} {s : Str} : cntS (P ++ [p]) s = if s = p.1 then cntS P s + 1 else cntS P s := by
  unfold cntS
  rw [List.filter_append, List.length_append]
  by_cases h : s = p.1
  · simp [h]
  · have : ¬ p.1 = s := fun e => h e.symm
    simp [h, this]
theorem cntS_le {P : List (Str × Mk)} {s : Str} : cntS P s ≤ P.length := List.length_filter_le _ _
/-- a dict that counts -/
def Cnt (kv : List (Key × Val)) (P : List (Str × Mk)) : Prop := (∀ s, getK kv (.inr s) = if cntS P s = 0 then none else some (.int (cntS P s : Nat))) ∧ kv.length ≤ P.length
theorem Cnt.nil : Cnt [] [] := ⟨fun s => rfl, Nat.le_refl _⟩
theorem Cnt.put {kv : List (Key × Val)} {P : List (Str × Mk)} {p : Str × Mk} (C : Cnt kv P) : Cnt (putV kv (.inr p.1) (.int ((cntS P p.1 : Nat) + 1))) (P ++ [p]) := by
  refine ⟨fun s => ?_, ?_⟩
  · rw [getK_put, cntS_snoc]
    by_cases h : s = p.1
    · subst h; simp
    · have : ¬ (Sum.inr s : Key) = .inr p.1 := fun e => h (Sum.inr.inj e)
      rw [if_neg this, if_neg h, C.1]
  · have := putV_len (kvs := kv) (k := (Sum.inr p.1 : Key)) (v := .int ((cntS P p.1 : Nat) + 1))
    have := C.2
    simp; omega
def tilde : Str := Str.ofString "~"
def numS (n : Int) : Str := toString n
def label (s : Str) (n : Nat) : Str := if 1 < n then s ++ tilde ++ numS (n : Nat) else s
def labs : List (Str × Mk) → List (Str × Mk) → List (Str × Mk)
  | _, [] => []
  | pre, p :: P => (label p.1 (cntS pre p.1 + 1), p.2) :: labs (pre ++ [p]) P
theorem labs_len : ∀ {P pre : List (Str × Mk)}, (labs pre P).length = P.length
  | [], _ => rfl
  | p :: P, pre => by simp [labs, labs_len]
theorem labs_snoc : ∀ {P pre : List (Str × Mk)} {p : Str × Mk}, labs pre (P ++ [p]) = labs pre P ++ [(label p.1 (cntS (pre ++ P) p.1 + 1), p.2)]
  | [], pre, p => by simp [labs]
  | q :: P, pre, p => by
    show _ :: labs (pre ++ [q]) (P ++ [p]) = _
    rw [labs_snoc]
    simp [labs]
def shownL (P : List (Str × Mk)) : List (Str × Mk) := srt (labs [] P)
/-- a name -/
def Nm (s : Str) : Prop := isName (.str s) = true
theorem Nm.len {s : Str} (h : Nm s) : s.length ≤ 6 := by
  unfold Nm isName at h
  simp only [Bool.and_eq_true, decide_eq_true_eq] at h
  exact h.1.2
theorem Nm.lets {s : Str} (h : Nm s) : ∀ c ∈ s.cps.toList, c ∈ MM.lets := by
  unfold Nm isName at h
  simp only [Bool.and_eq_true, List.all_eq_true, decide_eq_true_eq] at h
  exact h.2
theorem Gd.nm {n : Nat} {F : Fl} (g : Gd n F) : Nm (nameF F) := by
  unfold nameF
  cases e : F.names.map (·.2) with
  | nil => exact g.first
  | cons y ys =>
    have hm : minOf y ys ∈ F.names.map (·.2) := by rw [e]; exact minOf_mem
    obtain ⟨p, hp, h2⟩ := List.mem_map.mp hm
    show Nm (minOf y ys)
    rw [← h2]
    exact g.names.ri p hp
/-- one step of showing: the count, and the name -/
theorem cnt_step {a : Nat} {kv : List (Key × Val)} {P : List (Str × Mk)} {s : Str} {h : HM} (C : Cnt kv P) (hl : P.length ≤ 1000) (ha : h[a]? = some (.dK kv)) (hs : s.length ≤ 1000) :
    (∀ l i j, eVar i l h = .ok (.ref a) h → eVar j l h = .ok (.str s) h → eGet2 (eVar i) (eVar j) (eC (.int 0)) l h = .ok (.int (cntS P s : Nat)) h) ∧
    setI (.ref a) (.str s) (.int ((cntS P s : Nat) + 1)) h = some (h.set a (.dK (putV kv (.inr s) (.int ((cntS P s : Nat) + 1))))) ∧
    vIx (.ref a) (.str s) (h.set a (.dK (putV kv (.inr s) (.int ((cntS P s : Nat) + 1))))) = .ok (.int ((cntS P s : Nat) + 1)) (h.set a (.dK (putV kv (.inr s) (.int ((cntS P s : Nat) + 1))))) := by
  have alt : a < h.length := (List.getElem?_eq_some_iff.mp ha).1
  have h2 := C.2
  have isD : isDict a h = true := by simp [isDict, ha]
  refine ⟨fun l i j e1 e2' => ?_, ?_, ?_⟩
  · have dg : dGet a (.str s) h = some (if cntS P s = 0 then none else some (.int (cntS P s : Nat))) := by
      simp only [dGet, ha, keyOf, Option.map_some, C.1]
    unfold eGet2
    rw [e1]
    simp only [Res.bind_ok, isD, if_true, e2', ev_C, dg]
    by_cases z : cntS P s = 0
    · simp [z]
    · simp [z]
  · have : kv.length < sizeLine := by rw [sizeLine_eq]; omega
    simp only [setI, ha, if_pos this, keyOf, Option.map_some]
  · have g1 : (h.set a (.dK (putV kv (.inr s) (.int ((cntS P s : Nat) + 1)))))[a]? = some (.dK (putV kv (.inr s) (.int ((cntS P s : Nat) + 1)))) := List.getElem?_set_self alt
    simp only [vIx, dGet, g1, keyOf, Option.map_some, getK_put, if_true]
theorem numS_len : ∀ n : Nat, n < 100 → (numS (n : Nat)).length ≤ 2 := by decide +kernel
theorem tilde_len : tilde.length = 1 := by decide +kernel
theorem str_app_len {a b : Str} : (a ++ b).length = a.length + b.length := by
  rw [sg_of a, sg_of b, sg_app]
  simp
theorem Nm.ok {s : Str} (h : Nm s) : PyData.strOk s = true := by
  unfold PyData.strOk
  rw [← Array.all_toList, List.all_eq_true]
  intro c hc
  have h1 := h.lets c hc
  have : ∀ c ∈ MM.lets, c < 0x110000 := by decide
  exact decide_eq_true (this c h1)
/-- the text that is put at a name -/
theorem ev_label {s : Str} {n : Nat} {h : HM} (hs : s.length ≤ 1000) (hn : n < 100) : vAdd (.str s) (.str tilde) h = .ok (.str (s ++ tilde)) h ∧ bStr [.int (n : Nat)] h = .ok (.str (numS (n : Nat))) h ∧ vAdd (.str (s ++ tilde)) (.str (numS (n : Nat))) h = .ok (.str (s ++ tilde ++ numS (n : Nat))) h := by
  have l1 := tilde_len
  have l2 := numS_len n hn
  refine ⟨if_pos (by rw [sizeLine_eq]; omega), ?_, if_pos (by rw [sizeLine_eq, str_app_len]; omega)⟩
  have : (((n : Nat) : Int)).natAbs.log2 < 1920 := by
    have : (((n : Nat) : Int)).natAbs = n := by simp
    rw [this]
    have := Nat.log2_le_self n
    omega
  simp only [bStr, if_pos this]
  rfl
section
variable {n : Nat} {own acts : Int} {E : List (Mk × Fl)} {h : HM} {w : Mk} {f : Fl}
/-- a file on the shelf -/
theorem he_shelf (H : HE h n own acts E) (hg : getM E w = some f) : ∃ c, ∀ h', h'[n + 1]? = h[n + 1]? → vIx (.ref (n + 1)) (eM w) h' = .ok (eB (f, c)) h' := by
  obtain ⟨D, e, q⟩ := H
  subst e
  rw [fg_get] at hg
  cases e1 : getM D w with
  | none => rw [e1] at hg; cases hg
  | some p =>
    rw [e1] at hg
    obtain ⟨f', b⟩ := p
    cases hg
    exact ⟨b, fun h' e => vIx_M (e.trans q.sh) e1⟩
theorem HE.f2 (H : HE h n own acts E) : getF 0 2 (.ref n) h = .ok (.ref (n + 1)) h := by
  obtain ⟨D, e, q⟩ := H
  exact q.f2
/-- those that live, with their names -/
def nameE (E : List (Mk × Fl)) (w : Mk) : Str := match getM E w with
  | some F => nameF F
  | none => tilde
def livesE (E : List (Mk × Fl)) : List Mk := (srt (E.map (·.1))).filter fun w => !deadE E w
def showE (E : List (Mk × Fl)) : List (Str × Mk) := (livesE E).map fun w => (nameE E w, w)
theorem livesE_get (hw : w ∈ livesE E) : ∃ F, getM E w = some F := keys_get (List.mem_filter.mp hw).1
theorem livesE_len : (livesE E).length ≤ E.length := by
  have := List.length_filter_le (fun w => !deadE E w) (srt (E.map (·.1)))
  rw [srt_len, List.length_map] at this
  exact this
theorem ev_gt1 {n : Nat} {h : HM} : vGt (.int ((n : Nat) + 1)) (.int 1) h = .ok (.bl (decide (0 < n))) h := by
  rw [ev_gtI]
  congr 2
  simp
  omega
theorem at_shown (H : HE h n own acts E) (hl : E.length ≤ 90) (hg : ∀ w F, getM E w = some F → ∃ n, n ≤ 1000 ∧ Gd n F) :
    ∃ g, m_House_shown [.ref n] h = .ok (.tup ((shownL (showE E)).map Enc.enc)) (h ++ g) := by
  have lP := livesE_len (E := E)
  have ids := he_ids (H.app (g := [.dK [], .lst []])) (by omega)
  have hfl : ((srt (E.map (·.1))).filter fun w => !deadE E w) = livesE E := rfl
  rw [hfl] at ids
  have lt1 : n + 1 < h.length := H.lt
  obtain ⟨l', h', ef, kv, a3, a4, el, hC, rfl⟩ := for_inv (xs := (livesE E).map eM) (g := gNm 3) (b := m_House_shown_f0) (l := [some (.ref n), some (.ref h.length), some (.ref (h.length + 1)), none, none]) (h := h ++ [.dK [], .lst []])
    (fun i l h' => ∃ kv a3 a4, l = [some (.ref n), some (.ref h.length), some (.ref (h.length + 1)), a3, a4] ∧ Cnt kv ((showE E).take i) ∧ h' = h ++ [.dK kv, .lst ((labs [] ((showE E).take i)).map Enc.enc)])
    ⟨[], none, none, rfl, .nil, rfl⟩ (by
    rintro i x l h' hx ⟨kv, a3, a4, rfl, hC, rfl⟩
    rw [List.getElem?_map] at hx
    cases ew : (livesE E)[i]? with
    | none => rw [ew] at hx; cases hx
    | some w =>
      rw [ew] at hx
      cases hx
      have hi : i < (livesE E).length := (List.getElem?_eq_some_iff.mp ew).1
      obtain ⟨F, hF⟩ := livesE_get (List.mem_of_getElem? ew)
      obtain ⟨k, hk, G⟩ := hg w F hF
      have nm := G.nm
      have et : (showE E).take (i + 1) = (showE E).take i ++ [(nameF F, w)] := by
        have e1 : (showE E)[i]? = some (nameF F, w) := by
          unfold showE
          rw [List.getElem?_map, ew]
          simp only [Option.map_some, nameE, hF]
        rw [List.take_succ, e1]
        rfl
      have lPi : ((showE E).take i).length = i := by
        rw [List.length_take, showE, List.length_map]; omega
      have lL := labs_len (P := (showE E).take i) (pre := [])
      have C2 := hC.put (p := (nameF F, w))
      have hn : cntS ((showE E).take i) (nameF F) ≤ i := by
        have := cntS_le (P := (showE E).take i) (s := nameF F)
        omega
      rw [et, labs_snoc]
      generalize hP : (showE E).take i = P at *
      generalize hLb : (labs [] P) = Lb at *
      have st := cnt_step (a := h.length) (kv := kv) (P := P) (s := nameF F) (h := h ++ [.dK kv, .lst (Lb.map Enc.enc)]) hC (by omega) (by simp) (by have := nm.len; omega)
      obtain ⟨s1, s2, s3⟩ := st
      have es : (h ++ [Ob.dK kv, .lst (Lb.map Enc.enc)]).set h.length (.dK (putV kv (.inr (nameF F)) (.int ((cntS P (nameF F) : Nat) + 1)))) = h ++ [Ob.dK (putV kv (.inr (nameF F)) (.int ((cntS P (nameF F) : Nat) + 1))), .lst (Lb.map Enc.enc)] := by simp
      rw [es] at s2 s3
      have H1 : HE (h ++ [Ob.dK kv, .lst (Lb.map Enc.enc)]) n own acts E := H.app
      obtain ⟨c, sh⟩ := he_shelf H hF
      have sh1 := sh (h ++ [Ob.dK kv, .lst (Lb.map Enc.enc)]) (List.getElem?_append_left lt1)
      have na : ∀ h, m_name_of [eB (F, c)] h = .ok (.str (nameF F)) h := fun h => at_nameOf G.names.ok (by have := G.ln; show F.names.length ≤ 1000; omega)
      have mt : ∀ (s : Str) h, mkTup [.str s, eM w] h = .ok (Enc.enc (s, w)) h := fun s h => ev_mkTup (by simp)
      have ap : ∀ v, mAppend (.ref (h.length + 1)) [v] (h ++ [Ob.dK (putV kv (.inr (nameF F)) (.int ((cntS P (nameF F) : Nat) + 1))), .lst (Lb.map Enc.enc)]) = .ok .non (h ++ [Ob.dK (putV kv (.inr (nameF F)) (.int ((cntS P (nameF F) : Nat) + 1))), .lst (Lb.map Enc.enc ++ [v])]) := fun v => by
        have g1 : (h ++ [Ob.dK (putV kv (.inr (nameF F)) (.int ((cntS P (nameF F) : Nat) + 1))), .lst (Lb.map Enc.enc)])[h.length + 1]? = some (.lst (Lb.map Enc.enc)) := by simp
        have lz : (Lb.map (Enc.enc : Str × Mk → Val)).length < sizeLine := by rw [sizeLine_eq, List.length_map]; omega
        simp only [mAppend, g1, if_pos lz]
        simp
      have kd : isKd .list (.ref (h.length + 1)) (h ++ [Ob.dK (putV kv (.inr (nameF F)) (.int ((cntS P (nameF F) : Nat) + 1))), .lst (Lb.map Enc.enc)]) = true := by simp [isKd, seqL]
      obtain ⟨v1, v2, v3⟩ := ev_label (s := nameF F) (n := cntS P (nameF F) + 1) (h := h ++ [Ob.dK (putV kv (.inr (nameF F)) (.int ((cntS P (nameF F) : Nat) + 1))), .lst (Lb.map Enc.enc)]) (by have := nm.len; omega) (by omega)
      have s1' := fun l => s1 l 1 4
      have gt1 := ev_gt1 (n := cntS P (nameF F)) (h := h ++ [Ob.dK (putV kv (.inr (nameF F)) (.int ((cntS P (nameF F) : Nat) + 1))), .lst (Lb.map Enc.enc)])
      have f2 := H1.f2
      have td : Str.ofString "~" = tilde := rfl
      rw [List.map_append]
      generalize hL2 : Lb.map (Enc.enc : Str × Mk → Val) = LV at *
      generalize hK2 : putV kv (.inr (nameF F)) (.int ((cntS P (nameF F) : Nat) + 1)) = kv2 at *
      refine ⟨[some (.ref n), some (.ref h.length), some (.ref (h.length + 1)), some (eM w), a4], [some (.ref n), some (.ref h.length), some (.ref (h.length + 1)), some (eM w), some (.str (label (nameF F) (cntS P (nameF F) + 1)))], h ++ [.dK kv2, .lst (LV ++ [Enc.enc (label (nameF F) (cntS P (nameF F) + 1), w)])], rfl, ?_, kv2, _, _, rfl, C2, by simp⟩
      have v2' : bStr [.int ((cntS P (nameF F) : Nat) + 1)] (h ++ [Ob.dK kv2, .lst LV]) = .ok (.str (numS ((cntS P (nameF F) + 1 : Nat)))) (h ++ [Ob.dK kv2, .lst LV]) := v2
      have s1'' := s1' [some (.ref n), some (.ref h.length), some (.ref (h.length + 1)), some (eM w), some (.str (nameF F))] rfl rfl
      generalize h ++ [Ob.dK kv, .lst LV] = hA at *
      generalize h ++ [Ob.dK kv2, .lst LV] = hB at *
      by_cases hc : 0 < cntS P (nameF F)
      · have lb : label (nameF F) (cntS P (nameF F) + 1) = nameF F ++ tilde ++ numS ((cntS P (nameF F) + 1 : Nat)) := if_pos (by omega)
        rw [lb] at *
        rw [decide_eq_true hc] at gt1
        generalize hcn : numS ((cntS P (nameF F) + 1 : Nat)) = NS at *
        generalize hcc : ((cntS P (nameF F) : Nat) : Int) = CC at *
        unfold m_House_shown_f0
        simp [H1.isI, f2, sh1, na, s1'', s2, s3, gt1, td, v1, v2', v3, kd, mt, ap, -ev_mkTup, -ev_eGet2]
      · have lb : label (nameF F) (cntS P (nameF F) + 1) = nameF F := if_neg (by omega)
        rw [lb] at *
        rw [decide_eq_false hc] at gt1
        generalize hcc : ((cntS P (nameF F) : Nat) : Int) = CC at *
        unfold m_House_shown_f0
        simp [H1.isI, f2, sh1, na, s1'', s2, s3, gt1, kd, mt, ap, -ev_mkTup, -ev_eGet2])
  have lx : ((livesE E).map eM).length = (showE E).length := by simp [showE]
  have lS : (showE E).length ≤ 90 := by rw [showE, List.length_map]; omega
  have tk : (showE E).take ((livesE E).map eM).length = showE E := by rw [lx, List.take_length]
  rw [tk] at ef hC
  rw [el] at ef
  have lL := labs_len (P := showE E) (pre := [])
  refine ⟨[.dK kv, .lst ((labs [] (showE E)).map Enc.enc)], ?_⟩
  have so := sorted_ref (n := h.length + 1) (h := h ++ [Ob.dK kv, .lst ((labs [] (showE E)).map Enc.enc)]) (xs := labs [] (showE E)) (by simp) (sortable_pair _) (by omega)
  have fr : ∀ h : HM, mkRef [] h = .ok (.ref h.length) (h ++ [.lst []]) := fun h => rfl
  have bt : ∀ xs h, bTuple [.lst xs] h = .ok (.tup xs) h := fun xs h => rfl
  have isI : isIns 0 (.ref n) (h ++ [.dK [], .lst []]) = true := H.app.isI
  show _ = Res.ok (Val.tup ((srt (labs [] (showE E))).map Enc.enc)) _
  generalize (srt (labs [] (showE E))).map Enc.enc = SV at *
  generalize (livesE E).map eM = LV at *
  generalize hB : h ++ [Ob.dK kv, .lst ((labs [] (showE E)).map Enc.enc)] = hB at *
  generalize hA : h ++ [Ob.dK [], .lst []] = hA at *
  unfold m_House_shown mF
  simp [fr, hA, isI, ids, srcOf, ef, so, bt]
end
end
end MM
namespace MM
open PySem L2 PySem.W
noncomputable section
theorem pl_dat : ∀ (k : Nat) (v : Val), pl k v = true → ∃ d, datF v = some d ∧ d.canLay0 = true ∧ d.depth ≤ k + 1 := by
  have lst : ∀ (k : Nat), (∀ v, pl k v = true → ∃ d, datF v = some d ∧ d.canLay0 = true ∧ d.depth ≤ k + 1) → ∀ xs : List Val, xs.all (pl k) = true → ∃ ds, datFs xs = some ds ∧ PyData.canLayAll0 ds = true ∧ PyData.depthAll ds ≤ k + 1 := by
    intro k ih xs hx
    induction xs with
    | nil => exact ⟨[], rfl, rfl, Nat.zero_le _⟩
    | cons x xs ihx =>
      rw [List.all_cons, Bool.and_eq_true] at hx
      obtain ⟨d, e1, c1, d1⟩ := ih x hx.1
      obtain ⟨ds, e2', c2, d2⟩ := ihx hx.2
      refine ⟨d :: ds, by simp only [datFs, e1, e2'], by simp only [PyData.canLayAll0, c1, c2, Bool.and_self], ?_⟩
      simp only [PyData.depthAll]
      omega
  intro k
  induction k with
  | zero =>
    intro v h
    cases v <;> first | (cases h; done) | exact ⟨_, rfl, rfl, Nat.zero_le _⟩ | exact ⟨_, rfl, h, Nat.zero_le _⟩
  | succ k ih =>
    intro v h
    cases v with
    | tup xs =>
      unfold pl at h
      rw [Bool.and_eq_true] at h
      obtain ⟨ds, e, c, d⟩ := lst k ih xs h.2
      exact ⟨.tuple ds, by simp only [datF, e, Option.map_some], by simpa only [PyData.canLay0] using c, by simp only [PyData.depth]; omega⟩
    | ptup xs =>
      unfold pl at h
      rw [Bool.and_eq_true] at h
      obtain ⟨ds, e, c, d⟩ := lst k ih xs h.2
      exact ⟨.tuple ds, by simp only [datF, e, Option.map_some], by simpa only [PyData.canLay0] using c, by simp only [PyData.depth]; omega⟩
    | non => exact ⟨_, rfl, rfl, Nat.zero_le _⟩
    | bl b => exact ⟨_, rfl, rfl, Nat.zero_le _⟩
    | int i => exact ⟨_, rfl, rfl, Nat.zero_le _⟩
    | str x => exact ⟨_, rfl, h, Nat.zero_le _⟩
    | _ => cases h
theorem pl_shaped {v : Val} (h : pl 30 v = true) (h0 : HM) : ∃ d, dat v h0 = some d ∧ SeqAt.shaped d = true ∧ PyData.eqv d d = true := by
  obtain ⟨d, e, c, l⟩ := pl_dat 30 v h
  refine ⟨d, dat_eq e, ?_, SeqAt.eqv_refl d c⟩
  unfold SeqAt.shaped
  rw [c, Bool.true_and]
  exact decide_eq_true (by omega)
theorem eq_self {v : Val} (h : pl 30 v = true) (h0 : HM) : vEq v v h0 = .ok (.bl true) h0 := by
  obtain ⟨d, e, s, q⟩ := pl_shaped h h0
  unfold vEq
  rw [e]
  simp only [s, Bool.and_self, if_true, q]
theorem same_self {v : Val} (h : pl 30 v = true) (hs : sameB v v = true) (h0 : HM) : s_law_same [v, v] h0 = .ok (.bl true) h0 := by rw [same_ok h h, hs]
theorem pl_tup {k : Nat} {xs : List Val} (hl : xs.length ≤ 1000000) (h : ∀ x ∈ xs, pl k x = true) : pl (k + 1) (.tup xs) = true := by
  unfold pl
  rw [decide_eq_true hl, Bool.true_and, List.all_eq_true]
  exact h
section
variable {n : Nat} {own acts : Int} {E : List (Mk × Fl)} {h : HM} {w : Mk} {f : Fl}
def qOf (E : List (Mk × Fl)) (w : Mk) : List Str := match getM E w with
  | some F => quarF F
  | none => []
def eQ (E : List (Mk × Fl)) (w : Mk) : Val := .tup [eM w, .tup ((qOf E w).map .str)]
def quarL (E : List (Mk × Fl)) : List Mk := (livesE E).filter fun w => !decide (qOf E w = [])
theorem quar_four (F : Fl) : quarF F = [] ∨ quarF F = [sName] ∨ quarF F = [sText] ∨ quarF F = [sName, sText] := by
  unfold quarF
  by_cases h : F.texts = []
  · simp [h]
  · rw [if_neg h]
    cases two F.names <;> cases two F.texts <;> simp
theorem quar_ne {ws : List Str} (hw : ws = [] ∨ ws = [sName] ∨ ws = [sText] ∨ ws = [sName, sText]) (h : HM) : vNe (.tup (ws.map .str)) (.tup []) h = .ok (.bl (!decide (ws = []))) h := by
  have s0 : SeqAt.shaped (.tuple []) = true := by decide
  rcases hw with rfl | rfl | rfl | rfl
  · have e : dat (.tup (List.map Val.str [])) h = some (.tuple []) := rfl
    have q : PyData.eqv (.tuple []) (.tuple []) = true := rfl
    have e' : dat (.tup []) h = some (.tuple []) := rfl
    unfold vNe
    rw [e, e']
    simp only [s0, Bool.and_self, if_true, q]
    rfl
  · have e : dat (.tup (List.map Val.str [sName])) h = some (.tuple [.str sName]) := rfl
    have s1 : SeqAt.shaped (.tuple [.str sName]) = true := by decide +kernel
    have q : PyData.eqv (.tuple [.str sName]) (.tuple []) = false := rfl
    have e' : dat (.tup []) h = some (.tuple []) := rfl
    unfold vNe
    rw [e, e']
    simp only [s0, s1, Bool.and_self, if_true, q]
    rfl
  · have e : dat (.tup (List.map Val.str [sText])) h = some (.tuple [.str sText]) := rfl
    have s1 : SeqAt.shaped (.tuple [.str sText]) = true := by decide +kernel
    have q : PyData.eqv (.tuple [.str sText]) (.tuple []) = false := rfl
    have e' : dat (.tup []) h = some (.tuple []) := rfl
    unfold vNe
    rw [e, e']
    simp only [s0, s1, Bool.and_self, if_true, q]
    rfl
  · have e : dat (.tup (List.map Val.str [sName, sText])) h = some (.tuple [.str sName, .str sText]) := rfl
    have s1 : SeqAt.shaped (.tuple [.str sName, .str sText]) = true := by decide +kernel
    have q : PyData.eqv (.tuple [.str sName, .str sText]) (.tuple []) = false := rfl
    have e' : dat (.tup []) h = some (.tuple []) := rfl
    unfold vNe
    rw [e, e']
    simp only [s0, s1, Bool.and_self, if_true, q]
    rfl
theorem qOf_four (E : List (Mk × Fl)) (w : Mk) : qOf E w = [] ∨ qOf E w = [sName] ∨ qOf E w = [sText] ∨ qOf E w = [sName, sText] := by
  unfold qOf
  cases getM E w with
  | none => exact .inl rfl
  | some F => exact quar_four F
theorem at_quarrelsE (H : HE h n own acts E) (hl : E.length ≤ 90) (hg : ∀ w F, getM E w = some F → ∃ n, n ≤ 1000 ∧ Gd n F) :
    m_House_quarrels [.ref n] h = .ok (.tup ((quarL E).map (eQ E))) h := by
  have lP := livesE_len (E := E)
  have ids := he_ids H (by omega)
  have hfl : ((srt (E.map (·.1))).filter fun w => !deadE E w) = livesE E := rfl
  rw [hfl] at ids
  have f2 := H.f2
  have lc1 : lcL (srcItems ((livesE E).map eM)) (gNm 2) tYesM (eDisp mkTup (aCons (eVar 2) (aCons (eCall m_quarrels_of (aCons (e2 vIx (eFld 0 2 (eVar 0)) (eVar 2)) (aNil))) (aNil)))) [some (.ref n), none, none, none] (srcItems ((livesE E).map eM)).len 0 h [] = .ok ((livesE E).map (eQ E)) h :=
    lc_mapM (eQ E) (fun w hw => ⟨[some (.ref n), none, some (eM w), none], rfl, by
      obtain ⟨F, hF⟩ := livesE_get hw
      obtain ⟨k, hk, G⟩ := hg w F hF
      obtain ⟨c, sh⟩ := he_shelf H hF
      have sh := sh h rfl
      have na : m_quarrels_of [eB (F, c)] h = .ok (.tup ((quarF F).map .str)) h := at_quarrels (by have := G.ln; show F.names.length ≤ 1000; omega) (by have := G.lt; show F.texts.length ≤ 1000; omega)
      simp [f2, sh, na, eQ, qOf, hF, H.isI]⟩) (by rw [sizeLine_eq]; omega)
  have lc2 : lcL (srcItems ((livesE E).map (eQ E))) (gNm 3) (tOf (e2 vNe (e2 vIx (eVar 3) (eC (.int 1))) (eDisp mkTup (aNil)))) (eVar 3) [some (.ref n), some (.lst ((livesE E).map (eQ E))), none, none] (srcItems ((livesE E).map (eQ E))).len 0 h [] = .ok ((quarL E).map (eQ E)) h :=
    lc_filterM (fun w => !decide (qOf E w = [])) (eQ E) (fun w hw => ⟨[some (.ref n), some (.lst ((livesE E).map (eQ E))), none, some (eQ E w)], rfl, by
      have x1 : ∀ h, vIx (eQ E w) (.int 1) h = .ok (.tup ((qOf E w).map .str)) h := fun h => rfl
      have q := quar_ne (qOf_four E w) h
      simp [x1, q], fun _ => by simp⟩) (by rw [sizeLine_eq]; omega)
  have bt : ∀ xs h, bTuple [.lst xs] h = .ok (.tup xs) h := fun xs h => rfl
  generalize (quarL E).map (eQ E) = QV at *
  generalize (livesE E).map (eQ E) = LV at *
  generalize (livesE E).map eM = MV at *
  unfold m_House_quarrels mF
  simp [H.isI, ids, srcOf, wipeL, lc1, lc2, bt]
theorem pl_eQ (E : List (Mk × Fl)) (w : Mk) : pl 29 (eQ E w) = true := by
  have h1 := sName_ok
  have h2 := sText_ok
  unfold eQ
  rcases qOf_four E w with e | e | e | e <;> rw [e] <;> simp [pl, eM, h1, h2]
theorem pl_quar (hl : E.length ≤ 90) : pl 30 (.tup ((quarL E).map (eQ E))) = true := by
  have lP := livesE_len (E := E)
  refine pl_tup (by
    have := List.length_filter_le (fun w => !decide (qOf E w = [])) (livesE E)
    rw [List.length_map, quarL]; omega) fun x hx => ?_
  obtain ⟨w, _, rfl⟩ := List.mem_map.mp hx
  exact pl_eQ E w
theorem same_quar (hl : E.length ≤ 90) (h0 : HM) : s_law_same [.tup ((quarL E).map (eQ E)), .tup ((quarL E).map (eQ E))] h0 = .ok (.bl true) h0 := by
  refine same_self (pl_quar hl) ?_ h0
  rw [sameB_tup rfl rfl]
  exact same_map fun w hw => by
    unfold eQ
    rcases qOf_four E w with e | e | e | e <;> rw [e] <;> simp [sameB, sameBs, tupL, eM]
end
end
end MM
namespace MM
open PySem L2 PySem.W
noncomputable section
section
variable {b : Nat} {W : Wo} {h : HM} {i j mt L : Nat} {R : List Row}
/-- who has heard of what in the end -/
theorem tellRows_mem {A : List Act} (OA : OkA A) {m : Nat} (hi : i < m) (hj : j < m) (hne : i ≠ j) : ∀ {R : List Row} {S : Nat → List Act}, (∀ k, k < m → Closed A (S k)) → (∀ r ∈ R, r.2 = 0 ∨ r.2 = 1) → ∀ x,
    (x ∈ tellRows i j S R i ↔ x ∈ S i ∨ (x ∈ S j ∧ (x.which, (0 : Int)) ∈ R)) ∧ (x ∈ tellRows i j S R j ↔ x ∈ S j ∨ (x ∈ S i ∧ (x.which, (1 : Int)) ∈ R))
  | [], S, hS, hR, x => by simp [tellRows]
  | (w, c) :: R, S, hS, hR, x => by
    have ht : toOf i j c < m := by unfold toOf; split <;> assumption
    have hg : giOf i j c < m := by unfold giOf; split <;> assumption
    have hS' : ∀ k, k < m → Closed A (up S (toOf i j c) (tellS (S (toOf i j c)) (S (giOf i j c)) w) k) := fun k hk => by
      by_cases e : k = toOf i j c
      · rw [e, up_same]; exact tellS_closed OA (hS _ ht) (hS _ hg)
      · rw [up_ne e]; exact hS k hk
    have ih := tellRows_mem OA hi hj hne (R := R) hS' (fun r hr => hR r (List.mem_cons_of_mem _ hr)) x
    have mem' := tellS_mem (w := w) OA (hS _ ht) (hS _ hg) x
    show (x ∈ tellRows i j (up S (toOf i j c) (tellS (S (toOf i j c)) (S (giOf i j c)) w)) R i ↔ _) ∧ (x ∈ tellRows i j (up S (toOf i j c) (tellS (S (toOf i j c)) (S (giOf i j c)) w)) R j ↔ _)
    rw [ih.1, ih.2]
    rcases hR (w, c) List.mem_cons_self with h0 | h1
    · have h0 : c = 0 := h0
      subst h0
      have t0 : toOf i j 0 = i := rfl
      have g0 : giOf i j 0 = j := rfl
      rw [t0, g0] at mem' ⊢
      rw [up_same, up_ne (Ne.symm hne), mem']
      simp only [List.mem_cons, Prod.mk.injEq]
      constructor
      · constructor
        · rintro ((h | ⟨h, e⟩) | ⟨h, e⟩)
          · exact .inl h
          · exact .inr ⟨h, .inl ⟨e, trivial⟩⟩
          · exact .inr ⟨h, .inr e⟩
        · rintro (h | ⟨h, ⟨e, _⟩ | e⟩)
          · exact .inl (.inl h)
          · exact .inl (.inr ⟨h, e⟩)
          · exact .inr ⟨h, e⟩
      · constructor
        · rintro (h | ⟨h | ⟨h, _⟩, e⟩)
          · exact .inl h
          · exact .inr ⟨h, .inr e⟩
          · exact .inl h
        · rintro (h | ⟨h, ⟨_, e⟩ | e⟩)
          · exact .inl h
          · cases e
          · exact .inr ⟨.inl h, e⟩
    · have h1 : c = 1 := h1
      subst h1
      have t0 : toOf i j 1 = j := rfl
      have g0 : giOf i j 1 = i := rfl
      rw [t0, g0] at mem' ⊢
      rw [up_same, up_ne hne, mem']
      simp only [List.mem_cons, Prod.mk.injEq]
      constructor
      · constructor
        · rintro (h | ⟨h | ⟨h, _⟩, e⟩)
          · exact .inl h
          · exact .inr ⟨h, .inr e⟩
          · exact .inl h
        · rintro (h | ⟨h, ⟨_, e⟩ | e⟩)
          · exact .inl h
          · cases e
          · exact .inr ⟨.inl h, e⟩
      · constructor
        · rintro ((h | ⟨h, e⟩) | ⟨h, e⟩)
          · exact .inl h
          · exact .inr ⟨h, .inl ⟨e, trivial⟩⟩
          · exact .inr ⟨h, .inr e⟩
        · rintro (h | ⟨h, ⟨e, _⟩ | e⟩)
          · exact .inl (.inl h)
          · exact .inl (.inr ⟨h, e⟩)
          · exact .inr ⟨h, e⟩
theorem tellRows_both (O : WOk W) (hi : i < W.m) (hj : j < W.m) (hne : i ≠ j) (hR : IsRows (W.S i) (W.S j) R) (x : Act) :
    (x ∈ tellRows i j W.S R i ↔ x ∈ W.S i ∨ x ∈ W.S j) ∧ (x ∈ tellRows i j W.S R j ↔ x ∈ W.S i ∨ x ∈ W.S j) := by
  have t := tellRows_mem O.ok hi hj hne (R := R) (S := W.S) O.cl (fun r hr => (hR.good O hi hj r hr).1) x
  rw [t.1, t.2]
  constructor
  · constructor
    · rintro (h | ⟨h, _⟩)
      · exact .inl h
      · exact .inr h
    · rintro (h | h)
      · exact .inl h
      · by_cases z : x ∈ W.S i
        · exact .inl z
        · exact .inr ⟨h, (hR.mem _).mpr (.inl ⟨rfl, (lacks_iff O.ok (O.cl i hi) (O.cl j hj)).mpr ⟨x, h, rfl, z⟩⟩)⟩
  · constructor
    · rintro (h | ⟨h, _⟩)
      · exact .inr h
      · exact .inl h
    · rintro (h | h)
      · by_cases z : x ∈ W.S j
        · exact .inl z
        · exact .inr ⟨h, (hR.mem _).mpr (.inr ⟨rfl, (lacks_iff O.ok (O.cl j hj) (O.cl i hi)).mpr ⟨x, h, rfl, z⟩⟩)⟩
      · exact .inl h
end
end
end MM
namespace MM
open PySem L2 PySem.W
noncomputable section
section
variable {b : Nat} {W : Wo} {h : HM} {i j : Nat}
/-- alike but for how the shelves are kept -/
structure Sim (W V : Wo) : Prop where
  m : W.m = V.m
  num : W.num = V.num
  ct : W.ct = V.ct
  A : W.A = V.A
  S : W.S = V.S
theorem Sim.symm {W V : Wo} (h : Sim W V) : Sim V W := ⟨h.m.symm, h.num.symm, h.ct.symm, h.A.symm, h.S.symm⟩
theorem Sim.shelf {W V : Wo} (h : Sim W V) (O : WOk W) (P : WOk V) {i : Nat} (hi : i < W.m) : srt ((W.E i).map (·.1)) = srt ((V.E i).map (·.1)) ∧ ∀ w, getM (W.E i) w = getM (V.E i) w :=
  same_shelf (A := []) (O.sh i hi) (P.sh i (by rw [← h.m]; exact hi)) fun a => by rw [h.S]
end
end
end MM
namespace MM
open PySem L2 PySem.W
end MM
namespace MM
open PySem L2 PySem.W
end MM
namespace MM
open PySem L2 PySem.W
noncomputable section
/-- i lends to j -/
structure Lent (W W' : Wo) (i j : Nat) : Prop where
  m : W'.m = W.m
  num : W'.num = W.num
  A : W'.A = W.A
  E : W'.E i = W.E i
  S : ∀ k, k ≠ j → W'.S k = W.S k
  grow : ∀ k a, a ∈ W.S k → a ∈ W'.S k
  sub : ∀ a, a ∈ W'.S j → a ∈ W.S j ∨ a ∈ W.S i
theorem Lent.trans {W V U : Wo} {i j : Nat} (hne : i ≠ j) (p : Lent W V i j) (q : Lent V U i j) : Lent W U i j :=
  ⟨q.m.trans p.m, q.num.trans p.num, q.A.trans p.A, q.E.trans p.E, fun k hk => (q.S k hk).trans (p.S k hk), fun k a h => q.grow k a (p.grow k a h), fun a h => by
    rcases q.sub a h with h | h
    · exact p.sub a h
    · rw [p.S i hne] at h; exact .inr h⟩
end
end MM
namespace MM
open PySem L2
end MM
namespace MM
open PySem L2
open Sem (wp)
open AutoSeq1 (wpAny_loadPart')
end MM
namespace MM
open PySem L2 PySem.W
noncomputable section
section
variable {h : HM} {n : Nat} {own acts : Int} {E : List (Mk × Fl)} {w : Mk}
/-- what someone has heard -/
def HeardV (v : Val) (kn : Mk → List Mk) : Prop := ∃ (K : List Mk) (kv : Mk → Val), v = .ptup (K.map fun w => .tup [eM w, kv w]) ∧ K.Nodup ∧ (∀ w ∈ K, tupL (kv w) = some ((kn w).map eM) ∧ (kn w).length ≤ 1000) ∧ (∀ w, w ∉ K → kn w = []) ∧ K.length ≤ 1000
theorem HeardV.nil : HeardV (.ptup []) fun _ => [] := ⟨[], fun _ => .non, rfl, List.nodup_nil, fun w hw => (by cases hw), fun _ _ => rfl, by simp⟩
end
end
end MM
namespace MM
open PySem L2 PySem.W
noncomputable section
/-- where the houses stand -/
structure HsAt (b : Nat) (W : Wo) (h : HM) : Prop where
  hh : ∀ i, i < W.m → HE h (b + 3 * i) (W.num i) (W.ct i) (W.E i)
theorem HsAt.app {b : Nat} {W : Wo} {h g : HM} (H : HsAt b W h) : HsAt b W (h ++ g) := ⟨fun i hi => (H.hh i hi).app⟩
theorem HE.same {n : Nat} {own acts : Int} {E : List (Mk × Fl)} {h h' : HM} (H : HE h n own acts E) (k1 : h'[n]? = h[n]?) (k2 : h'[n + 1]? = h[n + 1]?) : HE h' n own acts E := by
  obtain ⟨D, e, q⟩ := H
  exact ⟨D, e, ⟨k1.trans q.ins, k2.trans q.sh⟩⟩
theorem HsAt.high {b : Nat} {W : Wo} {h h' : HM} (H : HsAt b W h) (k : ∀ q, q < b + 3 * W.m → h'[q]? = h[q]?) : HsAt b W h' := ⟨fun i hi => (H.hh i hi).same (k _ (by omega)) (k _ (by omega))⟩
theorem HsAt.lent {b : Nat} {W : Wo} {h h1 : HM} {j : Nat} {S' : List Act} {E' : List (Mk × Fl)} (H : HsAt b W h) (hj : j < W.m) (H1 : HE h1 (b + 3 * j) (W.num j) (W.ct j) E')
    (fr : ∀ k, k ≠ b + 3 * j → k ≠ b + 3 * j + 1 → h1[k]? = h[k]?) : HsAt b (W.lent j S' E') h1 := ⟨fun k hk => by
  have hk : k < W.m := hk
  show HE h1 (b + 3 * k) (W.num k) (W.ct k) (up W.E j E' k)
  by_cases e : k = j
  · subst e; rw [up_same]; exact H1
  · rw [up_ne e]
    exact (H.hh k hk).same (fr _ (by omega) (by omega)) (fr _ (by omega) (by omega))⟩
section
variable {b : Nat} {W : Wo} {h : HM} {i j mt L gi to : Nat} {R : List Row} {w : Mk} {c : Int} {F : Fl}
theorem hs_newsW {g : HM} (O : WOk W) (H : HsAt b W h) (hl : W.A.length ≤ 100) (hi : i < W.m) (hj : j < W.m) :
    ∃ bb v g', m_House_heard [.ref (b + 3 * i)] h = .ok v h ∧ m_House_news_for [.ref (b + 3 * j), v] h = .ok (.tup ((newsOf W i j).map (fileB (W.E j) bb))) (h ++ g') := by
  have CI := O.cl i hi
  have CJ := O.cl j hj
  have lI := (O.sh i hi).len CI
  have lJ := (O.sh j hj).len CJ
  obtain ⟨b1, e1⟩ := he_heard (H.hh i hi) (by omega)
  rw [heard_pairs] at e1
  have kl : ∀ w, (knownE (W.E i) w).length ≤ 1000 := fun w => by
    cases e : getM (W.E i) w with
    | none => simp [knownE, e]
    | some F =>
      have := ((O.sh i hi).gd CI e).known.len
      simp only [knownE, e]; omega
  obtain ⟨bb, g', e2⟩ := he_news (H.hh j hj) (by omega) (K := srt ((W.E i).map (·.1))) (srt_nd (O.sh i hi).nd) (fun w => kB (b1 w) (knownE (W.E i) w)) (knownE (W.E i)) (fun w _ => ⟨tupL_kB _ _, kl w⟩) (fun w hw => knownE_no hw) (by rw [srt_len]; simp; omega) (fun w F e => ⟨((O.sh j hj).ok w F e).2.1.id, by have := ((O.sh j hj).gd CJ e).known.len; omega⟩)
  exact ⟨bb, _, g', e1, e2⟩
theorem hs_meeting (O : WOk W) (H : HsAt b W h) (hl : W.A.length ≤ 100) (hi : i < W.m) (hj : j < W.m) :
    ∃ R L g, m_Meeting_init [.ref h.length, .ref (b + 3 * i), .ref (b + 3 * j)] (h ++ [.ins 1 []]) = .ok .non (h ++ g) ∧ MeetAt (h ++ g) h.length (b + 3 * i) (b + 3 * j) L R ∧ h.length < L ∧ IsRows (W.S i) (W.S j) R := by
  have CI := O.cl i hi
  have CJ := O.cl j hj
  have lI := (O.sh i hi).len CI
  have lJ := (O.sh j hj).len CJ
  obtain ⟨hv, hve⟩ : ∃ v : Val, v = .tup [.ref (b + 3 * i), .ref (b + 3 * j)] := ⟨_, rfl⟩
  have s1 : setF 1 0 (.ref h.length) hv (h ++ [.ins 1 []]) = some (h ++ [.ins 1 [hv]]) := by simp [setF]
  have H1 : HsAt b W (h ++ [.ins 1 [hv]]) := H.app
  obtain ⟨b1, v1, g1, y1, y2⟩ := hs_newsW (g := []) O H1 hl hi hj
  have H2 : HsAt b W (h ++ [.ins 1 [hv]] ++ g1) := H1.app
  obtain ⟨b2, v2, g2, y3, y4⟩ := hs_newsW (g := []) O H2 hl hj hi
  have H3 : HsAt b W (h ++ [.ins 1 [hv]] ++ g1 ++ g2) := H2.app
  have isj1 : isIns 0 (.ref (b + 3 * j)) (h ++ [.ins 1 [hv]]) = true := (H1.hh j hj).isI
  have isi1 : isIns 0 (.ref (b + 3 * i)) (h ++ [.ins 1 [hv]]) = true := (H1.hh i hi).isI
  have isj2 : isIns 0 (.ref (b + 3 * j)) (h ++ [.ins 1 [hv]] ++ g1) = true := (H2.hh j hj).isI
  have isi2 : isIns 0 (.ref (b + 3 * i)) (h ++ [.ins 1 [hv]] ++ g1) = true := (H2.hh i hi).isI
  have fb : ∀ (k : Nat), k < W.m → ∀ bb w, w ∈ srt ((W.E k).map (·.1)) → ∀ h, vIx (fileB (W.E k) bb w) (.int 0) h = .ok (eM w) h := fun k hk bb w hw h => by
    have hw2 := mem_keysM.mp (srt_mem.mp hw)
    rw [hasM_get, Option.isSome_iff_exists] at hw2
    obtain ⟨F, hF⟩ := hw2
    have := ((O.sh k hk).ok w F hF).2.1.id
    simp only [fileB, hF]
    rw [← this]; rfl
  have lN : ∀ k q, k < W.m → q < W.m → (newsOf W q k).length ≤ 100 := fun k q hk hq => by
    have h1 := List.length_filter_le (newsB (W.E k) (knownE (W.E q))) (srt ((W.E k).map (·.1)))
    have h2 := (O.sh k hk).len (O.cl k hk)
    rw [srt_len, List.length_map] at h1
    unfold newsOf
    omega
  have lc1 : lcL (srcItems ((newsOf W i j).map (fileB (W.E j) b1))) (gNm 4) tYesM (eDisp mkTup (aCons (e2 vIx (eVar 4) (eC (.int 0))) (aCons (eC (.int 0)) (aNil)))) [some (.ref h.length), some (.ref (b + 3 * i)), some (.ref (b + 3 * j)), none, none, none, none] (srcItems ((newsOf W i j).map (fileB (W.E j) b1))).len 0 (h ++ [.ins 1 [hv]] ++ g1) [] = .ok ((newsOf W i j).map fun w => .tup [eM w, .int 0]) (h ++ [.ins 1 [hv]] ++ g1) :=
    lc_mapM (fun w => .tup [eM w, .int 0]) (fun w hw => ⟨[some (.ref h.length), some (.ref (b + 3 * i)), some (.ref (b + 3 * j)), none, some (fileB (W.E j) b1 w), none, none], rfl, by
      have := fb j hj b1 w (List.mem_filter.mp hw).1
      simp [this]⟩) (by have := lN j i hj hi; rw [sizeLine_eq]; omega)
  have lc2 : ∀ a3, lcL (srcItems ((newsOf W j i).map (fileB (W.E i) b2))) (gNm 4) tYesM (eDisp mkTup (aCons (e2 vIx (eVar 4) (eC (.int 0))) (aCons (eC (.int 1)) (aNil)))) [some (.ref h.length), some (.ref (b + 3 * i)), some (.ref (b + 3 * j)), a3, none, none, none] (srcItems ((newsOf W j i).map (fileB (W.E i) b2))).len 0 (h ++ [.ins 1 [hv]] ++ g1 ++ g2) [] = .ok ((newsOf W j i).map fun w => .tup [eM w, .int 1]) (h ++ [.ins 1 [hv]] ++ g1 ++ g2) := fun a3 =>
    lc_mapM (fun w => .tup [eM w, .int 1]) (fun w hw => ⟨[some (.ref h.length), some (.ref (b + 3 * i)), some (.ref (b + 3 * j)), a3, some (fileB (W.E i) b2 w), none, none], rfl, by
      have := fb i hi b2 w (List.mem_filter.mp hw).1
      simp [this]⟩) (by have := lN i j hi hj; rw [sizeLine_eq]; omega)
  obtain ⟨Q, hQ⟩ : ∃ Q : List Row, Q = (newsOf W i j).map (fun w => (w, (0 : Int))) ++ (newsOf W j i).map (fun w => (w, (1 : Int))) := ⟨_, rfl⟩
  have lQ : Q.length ≤ 200 := by
    have := lN j i hj hi
    have := lN i j hi hj
    rw [hQ]; simp; omega
  have ndQ : Q.Nodup := by
    rw [hQ, List.nodup_append]
    refine ⟨?_, ?_, fun x hx y hy e => ?_⟩
    · rw [List.Nodup, List.pairwise_map]
      exact (newsOf_nd (i := i) O hj).imp fun h e => h (congrArg Prod.fst e)
    · rw [List.Nodup, List.pairwise_map]
      exact (newsOf_nd (i := j) O hi).imp fun h e => h (congrArg Prod.fst e)
    · obtain ⟨_, _, rfl⟩ := List.mem_map.mp hx
      obtain ⟨_, _, rfl⟩ := List.mem_map.mp hy
      have := congrArg Prod.snd e
      simp at this
  have isR : IsRows (W.S i) (W.S j) (srt Q) := by
    refine ⟨srt_nd ndQ, srt_srt _, fun r => ?_⟩
    rw [srt_mem, hQ, List.mem_append, List.mem_map, List.mem_map]
    constructor
    · rintro (⟨w, hw, rfl⟩ | ⟨w, hw, rfl⟩)
      · exact .inl ⟨rfl, (mem_newsOf O hi hj w).mp hw⟩
      · exact .inr ⟨rfl, (mem_newsOf O hj hi w).mp hw⟩
    · rintro (⟨h1, h2⟩ | ⟨h1, h2⟩)
      · exact .inl ⟨r.1, (mem_newsOf O hi hj r.1).mpr h2, Prod.ext rfl h1.symm⟩
      · exact .inr ⟨r.1, (mem_newsOf O hj hi r.1).mpr h2, Prod.ext rfl h1.symm⟩
  have eQ : (newsOf W i j).map (fun w => Val.tup [eM w, .int 0]) ++ (newsOf W j i).map (fun w => Val.tup [eM w, .int 1]) = Q.map Enc.enc := by
    rw [hQ, List.map_append, List.map_map, List.map_map]
    rfl
  have ad : ∀ h, vAdd (.lst ((newsOf W i j).map fun w => Val.tup [eM w, .int 0])) (.lst ((newsOf W j i).map fun w => Val.tup [eM w, .int 1])) h = .ok (.lst (Q.map Enc.enc)) h := fun h => by
    have := lN j i hj hi
    have := lN i j hi hj
    rw [addL2 (by simp; omega), eQ]
  have so := fun h => sorted_lst (h := h) (xs := Q) (sortable_pair Q) (by omega)
  have lc3 : ∀ hq a3, lcL (srcItems ((srt Q).map Enc.enc)) (gTp 2 (gsCons (gNm 5) (gsCons (gNm 6) (gsNil)))) tYesM (eDisp mkTup (aCons (eVar 6) (aCons (eVar 5) (aNil)))) [some (.ref h.length), some (.ref (b + 3 * i)), some (.ref (b + 3 * j)), a3, none, none, none] (srcItems ((srt Q).map Enc.enc)).len 0 hq [] = .ok ((srt Q).map eRow) hq := fun hq a3 =>
    lc_mapM eRow (fun r hr => ⟨[some (.ref h.length), some (.ref (b + 3 * i)), some (.ref (b + 3 * j)), a3, none, some (eM r.1), some (.int r.2)], rfl, by simp [eRow]⟩) (by rw [sizeLine_eq, srt_len]; omega)
  have mt1 : ∀ h, mkTup [.ref (b + 3 * i), .ref (b + 3 * j)] h = .ok hv h := fun h => by rw [hve]; exact ev_mkTup (by simp)
  have frs : ∀ (xs : List Val) (h : HM), fresh xs h = .ok (.ref h.length) (h ++ [.lst xs]) := fun xs h => rfl
  have s2 : ∀ X v, setF 1 1 (.ref h.length) v (h ++ [.ins 1 [hv]] ++ g1 ++ g2 ++ [X]) = some (h ++ [.ins 1 [hv, v]] ++ g1 ++ g2 ++ [X]) := fun X v => by simp [setF]
  have lL : (h ++ [Ob.ins 1 [hv]] ++ g1 ++ g2).length = h.length + 1 + g1.length + g2.length := by simp; omega
  refine ⟨srt Q, h.length + 1 + g1.length + g2.length, [.ins 1 [hv, .ref (h.length + 1 + g1.length + g2.length)]] ++ g1 ++ g2 ++ [.lst ((srt Q).map eRow)], ?_, ⟨?_, ?_⟩, by omega, isR⟩
  · generalize hA : h ++ [Ob.ins 1 [hv]] = hA1 at *
    generalize hB : hA1 ++ g1 = hB1 at *
    generalize hC : hB1 ++ g2 = hC1 at *
    generalize ((newsOf W i j).map (fileB (W.E j) b1)) = N1 at *
    generalize ((newsOf W j i).map (fileB (W.E i) b2)) = N2 at *
    generalize ((newsOf W i j).map fun w => Val.tup [eM w, .int 0]) = M1 at *
    generalize ((newsOf W j i).map fun w => Val.tup [eM w, .int 1]) = M2 at *
    have fin : h ++ [Ob.ins 1 [hv, .ref (h.length + 1 + g1.length + g2.length)]] ++ g1 ++ g2 ++ [.lst ((srt Q).map eRow)] = h ++ ([Ob.ins 1 [hv, .ref (h.length + 1 + g1.length + g2.length)]] ++ g1 ++ g2 ++ [.lst ((srt Q).map eRow)]) := by simp
    rw [← fin]
    generalize ((srt Q).map eRow) = RV at *
    generalize ((srt Q).map Enc.enc) = SV at *
    generalize (Q.map Enc.enc) = QV at *
    have s2' := s2 (.lst RV) (.ref (h.length + 1 + g1.length + g2.length))
    generalize h ++ [Ob.ins 1 [hv, .ref (h.length + 1 + g1.length + g2.length)]] ++ g1 ++ g2 ++ [.lst RV] = hD at *
    unfold m_Meeting_init mF
    simp [mt1, s1, isi1, isj1, isi2, isj2, y1, y2, y3, y4, srcOf, wipeL, lc1, lc2, ad, so, lc3, frs, lL, s2', -ev_mkTup]
  · have : h ++ ([Ob.ins 1 [hv, .ref (h.length + 1 + g1.length + g2.length)]] ++ g1 ++ g2 ++ [.lst ((srt Q).map eRow)]) = h ++ (Ob.ins 1 [hv, .ref (h.length + 1 + g1.length + g2.length)] :: (g1 ++ g2 ++ [.lst ((srt Q).map eRow)])) := by simp
    rw [this, get_at0, hve]
    rfl
  · have : h ++ ([Ob.ins 1 [hv, .ref (h.length + 1 + g1.length + g2.length)]] ++ g1 ++ g2 ++ [.lst ((srt Q).map eRow)]) = (h ++ [Ob.ins 1 [hv, .ref (h.length + 1 + g1.length + g2.length)]] ++ g1 ++ g2) ++ [.lst ((srt Q).map eRow)] := by simp
    rw [this, List.getElem?_append_right (by simp; omega)]
    have : h.length + 1 + g1.length + g2.length - (h ++ [Ob.ins 1 [hv, .ref (h.length + 1 + g1.length + g2.length)]] ++ g1 ++ g2).length = 0 := by simp; omega
    rw [this]
    rfl
theorem hs_step (O : WOk W) (hl : W.A.length ≤ 100) {Bk : Nat → List Act} (H : HsAt b ⟨W.m, W.num, W.ct, W.A, Bk, W.E⟩ h) (hi : i < W.m) (hj : j < W.m) (sep : b + 3 * W.m ≤ mt) (sepL : mt < L) (M : MeetAt h mt (b + 3 * i) (b + 3 * j) L ((w, c) :: R))
    (hc : (c = 0 ∧ to = i ∧ gi = j) ∨ (c = 1 ∧ to = j ∧ gi = i)) (hF : getM (W.E gi) w = some F) :
    ∃ h' E', m_Meeting_step [.ref mt] h = .ok (eRow (w, c)) h' ∧ HsAt b ⟨W.m, W.num, W.ct, W.A, Bk, up W.E to E'⟩ h' ∧ WOk (W.lent to (tellS (W.S to) (W.S gi) w) E') ∧ MeetAt h' mt (b + 3 * i) (b + 3 * j) L R ∧ (∀ k, (k < b ∨ b + 3 * W.m ≤ k) → k ≠ L → h'[k]? = h[k]?) ∧ h'.length = h.length := by
  have hg : gi < W.m := by rcases hc with ⟨_, _, rfl⟩ | ⟨_, _, rfl⟩ <;> assumption
  have ht : to < W.m := by rcases hc with ⟨_, rfl, _⟩ | ⟨_, rfl, _⟩ <;> assumption
  have Llt : L < h.length := (List.getElem?_eq_some_iff.mp M.rows).1
  have pp := pop_at M.rows
  have kd := kd_ref M.rows
  have tr := tru_ref M.rows
  have H1 : HsAt b ⟨W.m, W.num, W.ct, W.A, Bk, W.E⟩ (h.set L (.lst (R.map eRow))) := H.high fun q hq => List.getElem?_set_ne (by show L ≠ q; have : q < b + 3 * W.m := hq; omega)
  have M1 : MeetAt (h.set L (.lst (R.map eRow))) mt (b + 3 * i) (b + 3 * j) L R := ⟨by rw [List.getElem?_set_ne (by omega)]; exact M.ins, List.getElem?_set_self Llt⟩
  have fr1 : ∀ k, k ≠ L → (h.set L (.lst (R.map eRow)))[k]? = h[k]? := fun k hk => List.getElem?_set_ne (by omega)
  have ln1 : (h.set L (.lst (R.map eRow))).length = h.length := by simp
  have pp : mPop (.ref L) [.int 0] h = .ok (eRow (w, c)) (h.set L (.lst (R.map eRow))) := pp
  generalize h.set L (.lst (R.map eRow)) = h1 at *
  have Hg : HE h1 (b + 3 * gi) (W.num gi) (W.ct gi) (W.E gi) := H1.hh gi hg
  have Ht : HE h1 (b + 3 * to) (W.num to) (W.ct to) (W.E to) := H1.hh to ht
  obtain ⟨cb, ffile⟩ := he_file Hg hF
  obtain ⟨h2, E', take, H2, fr, O'⟩ := take_lent (c := cb) O hl hg ht hF Ht
  have W2 := H1.lent (S' := Bk to) (E' := E') ht H2 (fun k k1 k2 => fr.get k k1 k2)
  have W2 : HsAt b ⟨W.m, W.num, W.ct, W.A, up Bk to (Bk to), up W.E to E'⟩ h2 := W2
  rw [up_self] at W2
  refine ⟨h2, E', ?_, W2, O', ⟨?_, ?_⟩, fun k k1 k2 => ?_, by rw [fr.len, ln1]⟩
  · have hs : vIx (.tup [.ref (b + 3 * i), .ref (b + 3 * j)]) (.int (1 - c)) h1 = .ok (.ref (b + 3 * gi)) h1 := by
      rcases hc with ⟨rfl, _, rfl⟩ | ⟨rfl, _, rfl⟩ <;> rfl
    have ht2 : vIx (.tup [.ref (b + 3 * i), .ref (b + 3 * j)]) (.int c) h1 = .ok (.ref (b + 3 * to)) h1 := by
      rcases hc with ⟨rfl, rfl, _⟩ | ⟨rfl, rfl, _⟩ <;> rfl
    have un : ∀ a1 a2 a3 s, gTp 2 (gsCons (gNm 1) (gsCons (gNm 2) (gsNil))) (eRow (w, c)) [s, a1, a2, a3] = some [s, some (.int c), some (eM w), a3] := fun _ _ _ _ => rfl
    have nn : ∀ h, vIsNot (eB (F, cb)) .non h = .ok (.bl true) h := fun h => isNot_file
    have mt1 : ∀ h, mkTup [.int c, eM w] h = .ok (eRow (w, c)) h := fun h => ev_mkTup (by simp)
    have isN : ∀ (x : Row) (xs : List Row), ((x :: xs).map eRow).isEmpty = false := fun _ _ => rfl
    rw [isN] at tr
    unfold m_Meeting_step mF
    simp [M.f1, tr, kd, pp, un, M1.f0, hs, ht2, Hg.isI, Ht.isI, ffile, nn, take, mt1, -ev_mkTup]
  · rw [fr.get _ (by omega) (by omega)]; exact M1.ins
  · rw [fr.get _ (by omega) (by omega)]; exact M1.rows
  · rw [fr.get _ (by omega) (by omega)]; exact fr1 k k2
theorem hs_rest_loop {Bk : Nat → List Act} (hi0 : i ≠ j) (sepL : mt < L) : ∀ (R : List Row) (W : Wo) (h : HM) (n : Nat) (k : Int), b + 3 * W.m ≤ mt → WOk W → W.A.length ≤ 100 → HsAt b ⟨W.m, W.num, W.ct, W.A, Bk, W.E⟩ h → i < W.m → j < W.m → MeetAt h mt (b + 3 * i) (b + 3 * j) L R → (∀ r ∈ R, (r.2 = 0 ∨ r.2 = 1) ∧ ∃ a ∈ W.S (giOf i j r.2), a.which = r.1) → R.length < n →
    ∃ h' E', whL (tOf (e2 vIsNot (eMeth 1 m_Meeting_step (eVar 0) aNil) (eC .non))) m_Meeting_rest_w0 n [some (.ref mt), some (.int k)] h = .nx [some (.ref mt), some (.int (k + R.length))] h' ∧ HsAt b ⟨W.m, W.num, W.ct, W.A, Bk, E'⟩ h' ∧ WOk ⟨W.m, W.num, W.ct, W.A, tellRows i j W.S R, E'⟩ ∧ MeetAt h' mt (b + 3 * i) (b + 3 * j) L [] ∧ (∀ k, (k < b ∨ b + 3 * W.m ≤ k) → k ≠ L → h'[k]? = h[k]?)
  | [], W, h, n, k, hs, O, hl, H, hi, hj, M, hR, hn => by
    cases n with
    | zero => cases hn
    | succ n =>
      refine ⟨h, W.E, ?_, H, O, M, fun _ _ _ => rfl⟩
      have st := at_stepN M
      simp [whL, M.isI, st, isNot_non]
  | r :: R, W, h, n, k, hs, O, hl, H, hi, hj, M, hR, hn => by
    cases n with
    | zero => cases hn
    | succ n =>
      obtain ⟨w, c⟩ := r
      obtain ⟨h01, a, ha, haw⟩ := hR (w, c) List.mem_cons_self
      have hc : (c = 0 ∧ toOf i j c = i ∧ giOf i j c = j) ∨ (c = 1 ∧ toOf i j c = j ∧ giOf i j c = i) := by
        rcases h01 with h0 | h1
        · have h0 : c = 0 := h0
          exact .inl ⟨h0, by simp [toOf, h0], by simp [giOf, h0]⟩
        · have h1 : c = 1 := h1
          exact .inr ⟨h1, by simp [toOf, h1], by simp [giOf, h1]⟩
      have hg : giOf i j c < W.m := by rcases hc with ⟨_, _, e⟩ | ⟨_, _, e⟩ <;> rw [e] <;> assumption
      have ht : toOf i j c < W.m := by rcases hc with ⟨_, e, _⟩ | ⟨_, e, _⟩ <;> rw [e] <;> assumption
      obtain ⟨F, hF⟩ := (O.sh _ hg).all a ha
      have haw : a.which = w := haw
      rw [haw] at hF
      obtain ⟨h1, E1, e1, W1, O1, M1, fr1, _⟩ := hs_step (Bk := Bk) O hl H hi hj hs sepL M hc hF
      have mem' := tellS_mem (w := w) O.ok (O.cl _ ht) (O.cl _ hg)
      obtain ⟨h2, E2, e2', W2, O2, M2, fr2⟩ := hs_rest_loop hi0 sepL R (W.lent (toOf i j c) (tellS (W.S (toOf i j c)) (W.S (giOf i j c)) w) E1) h1 n (k + 1) hs O1 hl W1 hi hj M1 (fun r hr => by
        obtain ⟨q1, x, hx, hxw⟩ := hR r (List.mem_cons_of_mem _ hr)
        refine ⟨q1, x, ?_, hxw⟩
        show x ∈ up W.S _ _ _
        by_cases e : giOf i j r.2 = toOf i j c
        · rw [e, up_same, mem']; rw [e] at hx; exact .inl hx
        · rw [up_ne e]; exact hx) (by simp at hn; omega)
      refine ⟨h2, E2, ?_, W2, O2, M2, fun k k1 k2 => (fr2 k k1 k2).trans (fr1 k k1 k2)⟩
      have nn : ∀ h, vIsNot (eRow (w, c)) .non h = .ok (.bl true) h := fun h => (rfl)
      have e3 : (whL (tOf (e2 vIsNot (eMeth 1 m_Meeting_step (eVar 0) aNil) (eC .non))) m_Meeting_rest_w0 (n + 1) [some (.ref mt), some (.int k)] h) = whL (tOf (e2 vIsNot (eMeth 1 m_Meeting_step (eVar 0) aNil) (eC .non))) m_Meeting_rest_w0 n [some (.ref mt), some (.int (k + 1))] h1 := by
        conv => lhs; unfold whL
        simp [M.isI, e1, nn, m_Meeting_rest_w0]
      rw [e3, e2']
      have : k + 1 + (R.length : Int) = k + (((w, c) :: R).length : Nat) := by simp; omega
      rw [this]
theorem hs_rest {Bk : Nat → List Act} (O : WOk W) (hl : W.A.length ≤ 100) (H : HsAt b ⟨W.m, W.num, W.ct, W.A, Bk, W.E⟩ h) (hi : i < W.m) (hj : j < W.m) (hne : i ≠ j) (sep : b + 3 * W.m ≤ mt) (sepL : mt < L) (M : MeetAt h mt (b + 3 * i) (b + 3 * j) L R)
    (hR : ∀ r ∈ R, (r.2 = 0 ∨ r.2 = 1) ∧ ∃ a ∈ W.S (giOf i j r.2), a.which = r.1) (lR : R.length ≤ 1000) :
    ∃ h' E', m_Meeting_rest [.ref mt] h = .ok (.int R.length) h' ∧ HsAt b ⟨W.m, W.num, W.ct, W.A, Bk, E'⟩ h' ∧ WOk ⟨W.m, W.num, W.ct, W.A, tellRows i j W.S R, E'⟩ ∧ MeetAt h' mt (b + 3 * i) (b + 3 * j) L [] ∧ (∀ k, (k < b ∨ b + 3 * W.m ≤ k) → k ≠ L → h'[k]? = h[k]?) := by
  obtain ⟨h', E', e, W1, O1, M1, fr1⟩ := hs_rest_loop hne sepL R W h 100000 0 sep O hl H hi hj M hR (by omega)
  refine ⟨h', E', ?_, W1, O1, M1, fr1⟩
  rw [Int.zero_add] at e
  unfold m_Meeting_rest mF
  simp only [ev_sSeq, ev_sAsg, ev_C, Res.thn_ok, List.map_cons, List.map_nil, List.length_cons, List.length_nil, List.cons_append, List.nil_append, List.replicate, Nat.reduceAdd, Nat.reduceSub, ev_gNmS, ev_gNm0, Option.map_some]
  rw [e]
  simp
end
end
end MM
namespace MM
open PySem L2 PySem.W
noncomputable section
def m_law_is_told_v1 : FM := mF 8 (sSeq (sAsg (eDisp mkTup (aNil)) (gNm 2))
  (sSeq (sIf (tOf (e2 vGt (eLenSet (eLc (iVal (e2 vIx (eVar 1) (eC (.int 3)))) (gTp 2 (gsCons (gNm 3) (gsCons (gNm 4) (gsNil)))) (tYesM) (eVar 4) [3, 4] frozen)) (eC (.int 1)))) (sAsg (e2 vAdd (eVar 2) (eDisp mkTup (aCons (eC (.str "name")) (aNil)))) (gNm 2)) (sNil))
  (sSeq (sIf (tOf (e2 vGt (eLenSet (eLc (iVal (e2 vIx (eVar 1) (eC (.int 4)))) (gTp 2 (gsCons (gNm 3) (gsCons (gNm 5) (gsNil)))) (tYesM) (eVar 5) [3, 5] frozen)) (eC (.int 1)))) (sAsg (e2 vAdd (eVar 2) (eDisp mkTup (aCons (eC (.str "text")) (aNil)))) (gNm 2)) (sNil))
  (sSeq (sAsg (eDisp mkTup (aNil)) (gNm 6))
  (sSeq (sIf (tAndM (tTru (eVar 2)) (tTru (e2 vIx (eVar 1) (eC (.int 4))))) (sAsg (eDisp mkTup (aCons (eDisp mkTup (aCons (e2 vIx (eVar 1) (eC (.int 0))) (aCons (eVar 2) (aNil)))) (aNil))) (gNm 6)) (sNil))
  (sSeq (sIf (tOrM (tNotM (tTru (eCall s_law_same (aCons (eMeth 0 m_House_file (eVar 0) (aCons (e2 vIx (eVar 1) (eC (.int 0))) (aNil))) (aCons (eVar 1) (aNil)))))) (tNotM (tTru (eCall s_law_same (aCons (eMeth 0 m_House_quarrels (eVar 0) aNil) (aCons (eVar 6) (aNil))))))) (sRet (eC (.bl false))) (sNil))
  (sSeq (sIf (tNotM (tTru (e2 vIx (eVar 1) (eC (.int 4))))) (sRet (eAndM (e2 vEq (eMeth 0 m_House_shown (eVar 0) aNil) (eDisp mkTup (aNil))) (eAndM (e2 vEq (eMeth 0 m_House_ids (eVar 0) aNil) (eDisp mkTup (aNil))) (eCall s_law_same (aCons (eMeth 0 m_House_gone (eVar 0) aNil) (aCons (eDisp mkTup (aCons (e2 vIx (eVar 1) (eC (.int 0))) (aNil))) (aNil))))))) (sNil))
  (sSeq (sAsg (eDfl PySem.W.minD (eLc (iVal (e2 vIx (eVar 1) (eC (.int 3)))) (gTp 2 (gsCons (gNm 3) (gsCons (gNm 7) (gsNil)))) (tYesM) (eVar 7) [3, 7] frozen) (e2 vIx (eVar 1) (eC (.int 1)))) (gNm 4))
  (sRet (eAndM (eCall s_law_same (aCons (eMeth 0 m_House_text_of (eVar 0) (aCons (e2 vIx (eVar 1) (eC (.int 0))) (aNil))) (aCons (e2 vIx (e2 vIx (e2 vIx (eVar 1) (eC (.int 4))) (eNegM (eC (.int 1)))) (eC (.int 1))) (aNil)))) (eCall s_law_same (aCons (eMeth 0 m_House_shown (eVar 0) aNil) (aCons (eDisp mkTup (aCons (eDisp mkTup (aCons (eVar 4) (aCons (e2 vIx (eVar 1) (eC (.int 0))) (aNil)))) (aNil))) (aNil))))))))))))))
section
variable {E : List (Mk × Fl)} {n k : Nat} {own acts : Int} {w : Mk} {F : Fl} {h : HM}
theorem two_len {xs : List Wd} : ((1 : Int) < ((uniq (xs.map (·.2))).length : Nat)) ↔ two xs = true := by
  unfold two
  rw [decide_eq_true_iff]
  omega
theorem srt_one {α : Type} [DecidableEq α] [Enc α] {x : α} : srt [x] = [x] := List.perm_singleton.mp (srt_perm [x])
theorem srt_none {α : Type} [DecidableEq α] [Enc α] : srt ([] : List α) = [] := List.perm_nil.mp (srt_perm [])
theorem get_one : getM [(w, F)] w = some F := by simp [getM]
theorem lives_one : livesE [(w, F)] = if F.texts = [] then [] else [w] := by
  have s1 : srt (([(w, F)] : List (Mk × Fl)).map (·.1)) = [w] := srt_one (α := Mk)
  unfold livesE
  rw [s1]
  have : deadE [(w, F)] w = decide (F.texts = []) := by simp [deadE, get_one]
  simp only [List.filter, this]
  by_cases e : F.texts = [] <;> simp [e]
theorem qOf_one : qOf [(w, F)] w = quarF F := by simp [qOf, get_one]
theorem quar_dead (e : F.texts = []) : quarF F = [] := by simp [quarF, e]
theorem quarL_one : (quarL [(w, F)]).map (eQ [(w, F)]) = if quarF F = [] then [] else [.tup [eM w, .tup ((quarF F).map .str)]] := by
  unfold quarL
  rw [lives_one]
  by_cases e : F.texts = []
  · simp [e, quar_dead e]
  · simp only [if_neg e, List.filter, qOf_one]
    by_cases e2 : quarF F = [] <;> simp [e2, eQ, qOf_one]
theorem shown_one : (shownL (showE [(w, F)])).map Enc.enc = if F.texts = [] then [] else [Val.tup [.str (nameF F), eM w]] := by
  unfold showE
  rw [lives_one]
  by_cases e : F.texts = []
  · simp only [e, if_true, List.map_nil, shownL, labs, srt_none]
  · rw [if_neg e, if_neg e]
    have : nameE [(w, F)] w = nameF F := by simp [nameE, get_one]
    have s2 : shownL [(nameF F, w)] = [(nameF F, w)] := by
      unfold shownL
      have : labs [] [(nameF F, w)] = [(nameF F, w)] := by simp [labs, cntS, label]
      rw [this]; exact srt_one
    simp only [List.map, this, s2]
    rfl
theorem at_told (H : HE h n own acts [(w, F)]) (g : Gd k F) (hk : k ≤ 800) (hid : F.id = w) : ∃ g', m_law_is_told_v1 [.ref n, eT F] h = .ok (.bl true) (h ++ g') := by
  have x0 : ∀ h, vIx (eT F) (.int 0) h = .ok (eM w) h := fun _ => by rw [← hid]; rfl
  have x1 : ∀ h, vIx (eT F) (.int 1) h = .ok (.str F.first) h := fun _ => rfl
  have x3 : ∀ h, vIx (eT F) (.int 3) h = .ok (.tup (F.names.map eW)) h := fun _ => rfl
  have x4 : ∀ h, vIx (eT F) (.int 4) h = .ok (.tup (F.texts.map eW)) h := fun _ => rfl
  have en : Str.ofString "name" = sName := rfl
  have ett : Str.ofString "text" = sText := rfl
  have gds : ∀ w' F', getM [(w, F)] w' = some F' → ∃ n, n ≤ 1000 ∧ Gd n F' := fun w' F' e => by
    by_cases q : w = w'
    · simp [getM, q] at e; subst e; exact ⟨k, by omega, g⟩
    · simp [getM, q] at e
  have ln := g.ln
  have lt := g.lt
  obtain ⟨b, fl⟩ := he_file H get_one
  have sm := fun h => same_files (b := b) (c := false) (h := h) g (by omega)
  have eTB : eB (F, false) = eT F := rfl
  rw [eTB] at sm
  have qu := at_quarrelsE H (by simp) gds
  obtain ⟨gs, sh⟩ := at_shown H (by simp) gds
  have H2 := H.app (g := gs)
  have ids := he_ids H2 (by simp)
  have gon := he_gone H2 (by simp)
  have hfl : ((srt (([(w, F)] : List (Mk × Fl)).map (·.1))).filter fun w' => !deadE [(w, F)] w') = livesE [(w, F)] := rfl
  rw [hfl, lives_one] at ids
  rw [quarL_one] at qu
  rw [shown_one] at sh
  have sq : ∀ h, s_law_same [.tup (if quarF F = [] then [] else [.tup [eM w, .tup ((quarF F).map .str)]]), .tup (if quarF F = [] then [] else [.tup [eM w, .tup ((quarF F).map .str)]])] h = .ok (.bl true) h := fun h => by
    rw [← quarL_one]
    exact same_quar (by simp) h
  have isI := H.isI
  have isI2 := H2.isI
  have so3 : ∀ (a2 a5 a6 a7 : Option Val), lcL (srcItems (F.names.map eW)) (gTp 2 (gsCons (gNm 3) (gsCons (gNm 4) (gsNil)))) tYesM (eVar 4) [some (.ref n), some (eT F), a2, none, none, a5, a6, a7] (srcItems (F.names.map eW)).len 0 h [] = .ok (F.names.map fun p => .str p.2) h := fun a2 a5 a6 a7 =>
    lc_mapM (fun p : Wd => .str p.2) (fun p hp => ⟨_, rfl, by simp⟩) (by rw [sizeLine_eq]; omega)
  have so4 : ∀ (a2 a4 a6 a7 : Option Val), lcL (srcItems (F.texts.map eW)) (gTp 2 (gsCons (gNm 3) (gsCons (gNm 5) (gsNil)))) tYesM (eVar 5) [some (.ref n), some (eT F), a2, none, a4, none, a6, a7] (srcItems (F.texts.map eW)).len 0 h [] = .ok (F.texts.map fun p => .str p.2) h := fun a2 a4 a6 a7 =>
    lc_mapM (fun p : Wd => .str p.2) (fun p hp => ⟨_, rfl, by simp⟩) (by rw [sizeLine_eq]; omega)
  have l3 : ∀ h, vLenSet (.lst (F.names.map fun p => .str p.2)) h = .ok (.int (uniq (F.names.map (·.2))).length) h := fun h => by
    rw [words_str]; exact lenSet_lst (by simp; omega)
  have l4 : ∀ h, vLenSet (.lst (F.texts.map fun p => .str p.2)) h = .ok (.int (uniq (F.texts.map (·.2))).length) h := fun h => by
    rw [words_str]; exact lenSet_lst (by simp; omega)
  have m1 : ∀ (p : Val) h, mkTup [p] h = .ok (.tup [p]) h := fun p h => ev_mkTup (by simp)
  have m2 : ∀ (p q : Val) h, mkTup [p, q] h = .ok (.tup [p, q]) h := fun p q h => ev_mkTup (by simp)
  have m0 : ∀ h, mkTup [] h = .ok (.tup []) h := fun h => ev_mkTup (by simp)
  have add : ∀ (fd : List Val) (b : Val) h, fd.length ≤ 2 → vAdd (.tup fd) (.tup [b]) h = .ok (.tup (fd ++ [b])) h := fun fd b h hl => if_pos (by rw [sizeLine_eq]; simp; omega)
  obtain ⟨Q, hQ⟩ : ∃ Q : List Val, Q = (if two F.names = true then [Val.str sName] else []) ++ (if two F.texts = true then [Val.str sText] else []) := ⟨_, rfl⟩
  have qQ : F.texts ≠ [] → (quarF F).map Val.str = Q := fun e => by
    rw [hQ]; simp only [quarF, if_neg e]
    cases two F.names <;> cases two F.texts <;> rfl
  have nQ : F.texts ≠ [] → (quarF F = [] ↔ Q = []) := fun e => by
    rw [← qQ e]; simp
  have due : (if !Q.isEmpty && !(F.texts.map eW).isEmpty then [Val.tup [eM w, .tup Q]] else []) = (if quarF F = [] then [] else [.tup [eM w, .tup ((quarF F).map .str)]]) := by
    by_cases e : F.texts = []
    · simp [e, quar_dead e]
    · rw [qQ e]
      by_cases e2 : quarF F = []
      · simp [e2, (nQ e).mp e2]
      · have : Q ≠ [] := fun z => e2 ((nQ e).mpr z)
        have z1 : (F.texts.map eW).isEmpty = false := by simp [e]
        have z2 : Q.isEmpty = false := by simpa using this
        simp [e2, z1, z2]
  have tq : ∀ h, truV (.tup Q) h = .ok (!Q.isEmpty) h := fun h => rfl
  have tt : ∀ h, truV (.tup (F.texts.map eW)) h = .ok (!(F.texts.map eW).isEmpty) h := fun h => rfl
  have st1 : (sIf (tOf (e2 vGt (eLenSet (eLc (iVal (e2 vIx (eVar 1) (eC (.int 3)))) (gTp 2 (gsCons (gNm 3) (gsCons (gNm 4) (gsNil)))) (tYesM) (eVar 4) [3, 4] frozen)) (eC (.int 1)))) (sAsg (e2 vAdd (eVar 2) (eDisp mkTup (aCons (eC (.str sName)) (aNil)))) (gNm 2)) (sNil)) [some (.ref n), some (eT F), some (.tup []), none, none, none, none, none] h = .nx [some (.ref n), some (eT F), some (.tup (if two F.names = true then [Val.str sName] else [])), none, none, none, none, none] h := by
    simp only [ev_sIf, ev_tOf, ev_e2, ev_lenSet, ev_eLc, ev_iVal, ev_VarS, ev_Var0, ev_C, Res.bind_ok, x3, srcOf, wipeL, List.set, List.foldl, so3, ev_frozen, l3, ev_gtI, ev_toB, Res.thn_ok, two_len]
    cases two F.names
    · simp
    · simp [add, m1, -ev_mkTup]
  have st2 : (sIf (tOf (e2 vGt (eLenSet (eLc (iVal (e2 vIx (eVar 1) (eC (.int 4)))) (gTp 2 (gsCons (gNm 3) (gsCons (gNm 5) (gsNil)))) (tYesM) (eVar 5) [3, 5] frozen)) (eC (.int 1)))) (sAsg (e2 vAdd (eVar 2) (eDisp mkTup (aCons (eC (.str sText)) (aNil)))) (gNm 2)) (sNil)) [some (.ref n), some (eT F), some (.tup (if two F.names = true then [Val.str sName] else [])), none, none, none, none, none] h = .nx [some (.ref n), some (eT F), some (.tup Q), none, none, none, none, none] h := by
    simp only [ev_sIf, ev_tOf, ev_e2, ev_lenSet, ev_eLc, ev_iVal, ev_VarS, ev_Var0, ev_C, Res.bind_ok, x4, srcOf, wipeL, List.set, List.foldl, so4, ev_frozen, l4, ev_gtI, ev_toB, Res.thn_ok, two_len, hQ]
    cases two F.names <;> cases two F.texts <;> simp [add, m1, -ev_mkTup]
  have st3 : (sIf (tAndM (tTru (eVar 2)) (tTru (e2 vIx (eVar 1) (eC (.int 4))))) (sAsg (eDisp mkTup (aCons (eDisp mkTup (aCons (e2 vIx (eVar 1) (eC (.int 0))) (aCons (eVar 2) (aNil)))) (aNil))) (gNm 6)) (sNil)) [some (.ref n), some (eT F), some (.tup Q), none, none, none, some (.tup []), none] h = .nx [some (.ref n), some (eT F), some (.tup Q), none, none, none, some (.tup (if quarF F = [] then [] else [.tup [eM w, .tup ((quarF F).map .str)]])), none] h := by
    rw [← due]
    simp only [ev_sIf, ev_tAnd, ev_tTru, ev_VarS, ev_Var0, ev_e2, ev_C, Res.bind_ok, x4, tq, tt, Res.thn_ok]
    cases Q.isEmpty <;> cases (F.texts.map eW).isEmpty <;> simp [m1, m2, x0, -ev_mkTup]
  have st4 : (sIf (tOrM (tNotM (tTru (eCall s_law_same (aCons (eMeth 0 m_House_file (eVar 0) (aCons (e2 vIx (eVar 1) (eC (.int 0))) (aNil))) (aCons (eVar 1) (aNil)))))) (tNotM (tTru (eCall s_law_same (aCons (eMeth 0 m_House_quarrels (eVar 0) aNil) (aCons (eVar 6) (aNil))))))) (sRet (eC (.bl false))) (sNil)) [some (.ref n), some (eT F), some (.tup Q), none, none, none, some (.tup (if quarF F = [] then [] else [.tup [eM w, .tup ((quarF F).map .str)]])), none] h = .nx [some (.ref n), some (eT F), some (.tup Q), none, none, none, some (.tup (if quarF F = [] then [] else [.tup [eM w, .tup ((quarF F).map .str)]])), none] h := by
    generalize (Val.tup (if quarF F = [] then [] else [.tup [eM w, .tup ((quarF F).map .str)]])) = QV at *
    simp [isI, x0, fl, sm, qu, sq]
  unfold m_law_is_told_v1 mF
  rw [en, ett]
  simp only [List.map_cons, List.map_nil, List.length_cons, List.length_nil, List.cons_append, List.nil_append, List.replicate, Nat.reduceAdd, Nat.reduceSub]
  simp only [ev_sSeq, ev_sAsg, ev_eDisp, ev_aNil, m0, Res.thn_ok, Res.bind_ok, ev_gNmS, ev_gNm0, Option.map_some, st1, st2, st3, st4]
  generalize (Val.tup (if quarF F = [] then [] else [.tup [eM w, .tup ((quarF F).map .str)]])) = QV at *
  by_cases e : F.texts = []
  · have z1 : (F.texts.map eW).isEmpty = true := by simp [e]
    rw [z1] at tt
    simp only [e, if_true] at sh ids
    have sh2 : m_House_shown [.ref n] h = .ok (.tup []) (h ++ gs) := sh
    have eqe : ∀ h, vEq (.tup []) (.tup []) h = .ok (.bl true) h := fun h => eq_self (by simp [pl]) h
    have ids2 : m_House_ids [.ref n] (h ++ gs) = .ok (.tup []) (h ++ gs) := ids
    have s1 : srt (([(w, F)] : List (Mk × Fl)).map (·.1)) = [w] := srt_one (α := Mk)
    have gon2 : m_House_gone [.ref n] (h ++ gs) = .ok (.tup [eM w]) (h ++ gs) := by
      rw [gon, s1]
      have : deadE [(w, F)] w = true := by simp [deadE, get_one, e]
      simp [this]
    have sg1 : ∀ h, s_law_same [.tup [eM w], .tup [eM w]] h = .ok (.bl true) h := fun h => same_marks [w] (by simp) h
    refine ⟨gs, ?_⟩
    generalize eT F = fv at *
    generalize h ++ gs = hB at *
    simp [x4, tt, isI, isI2, sh2, m0, eqe, ids2, gon2, x0, m1, sg1, -ev_mkTup]
  · have z1 : (F.texts.map eW).isEmpty = false := by simp [e]
    rw [z1] at tt
    simp only [if_neg e] at sh
    obtain ⟨t, q, hq⟩ : ∃ t q, F.texts = t ++ [q] := ⟨_, _, (List.dropLast_concat_getLast e).symm⟩
    have tx := he_textOf H get_one hq
    have xl : ∀ h, vIx (.tup (F.texts.map eW)) (.int (-1)) h = .ok (eW q) h := fun h => by
      have : atI (F.texts.map eW) (-1) = some (eW q) := by rw [hq, List.map_append]; exact atI_last
      simp only [vIx, this]
      rfl
    have xq : ∀ h, vIx (eW q) (.int 1) h = .ok (.str q.2) h := fun h => rfl
    have qok : PyData.strOk q.2 = true := g.texts.ok q (by rw [hq]; simp)
    have st := fun h => same_str q.2 qok h
    have so7 : lcL (srcItems (F.names.map eW)) (gTp 2 (gsCons (gNm 3) (gsCons (gNm 7) (gsNil)))) tYesM (eVar 7) [some (.ref n), some (eT F), some (.tup Q), none, none, none, some QV, none] (srcItems (F.names.map eW)).len 0 h [] = .ok (F.names.map fun p => .str p.2) h :=
      lc_mapM (fun p : Wd => .str p.2) (fun p hp => ⟨_, rfl, by simp⟩) (by rw [sizeLine_eq]; omega)
    have df : ∀ h, vDfl minD (.lst (F.names.map fun p => .str p.2)) (.str F.first) h = .ok (.str (nameF F)) h := fun h => by
      rw [words_str]
      exact dfl_str (fun w hw => by
        obtain ⟨p, hp, rfl⟩ := List.mem_map.mp hw
        exact g.names.ok p hp)
    have nmok := g.nm.ok
    have ss : ∀ h, s_law_same [.tup [.tup [.str (nameF F), eM w]], .tup [.tup [.str (nameF F), eM w]]] h = .ok (.bl true) h := fun h => same_self (by simp [pl, eM, nmok]) (by simp [sameB, sameBs, tupL, eM]) h
    refine ⟨gs, ?_⟩
    generalize eT F = fv at *
    generalize h ++ gs = hB at *
    simp [x4, tt, isI, x1, x3, srcOf, wipeL, so7, df, x0, tx, xl, xq, st, sh, m2, m1, ss, -ev_mkTup]
end
end
end MM
namespace MM
open PySem L2 PySem.W
noncomputable section
structure J18 (b : Nat) (W : Wo) (h : HM) : Prop where
  O : WOk W
  H : HsAt b W h
  m : W.m = 3
  len : b + 9 ≤ h.length
section
variable {b : Nat} {W : Wo} {h : HM} {i j : Nat} {w : Mk} {F : Fl}
theorem tellRows_off {i j k : Nat} (hi : k ≠ i) (hj : k ≠ j) : ∀ {R : List Row} {S : Nat → List Act}, tellRows i j S R k = S k
  | [], _ => rfl
  | r :: R, S => by
    show tellRows i j (up S (toOf i j r.2) _) R k = _
    rw [tellRows_off hi hj, up_ne]
    unfold toOf
    split <;> assumption
theorem meet18 (J : J18 b W h) (hl : W.A.length ≤ 20) (hi : i < 3) (hj : j < 3) (hne : i ≠ j) :
    ∃ hm r W' h', m_Meeting_init [.ref h.length, .ref (b + 3 * i), .ref (b + 3 * j)] (h ++ [.ins 1 []]) = .ok .non hm ∧ isIns 1 (.ref h.length) hm = true ∧ m_Meeting_rest [.ref h.length] hm = .ok (.int r) h' ∧ J18 b W' h' ∧ W'.num = W.num ∧ W'.ct = W.ct ∧ W'.A = W.A ∧ (∀ x, x ∈ W'.S i ↔ x ∈ W.S i ∨ x ∈ W.S j) ∧ (∀ x, x ∈ W'.S j ↔ x ∈ W.S i ∨ x ∈ W.S j) ∧ (∀ k, k ≠ i → k ≠ j → W'.S k = W.S k) ∧ ∀ k, b + 9 ≤ k → k < h.length → h'[k]? = h[k]? := by
  obtain ⟨O, H, m3, hlen⟩ := J
  have hi' : i < W.m := by omega
  have hj' : j < W.m := by omega
  obtain ⟨R, L, g, e1, M, hL, hR⟩ := hs_meeting O H (by omega) hi' hj'
  have lR := hR.len O hi' hj'
  have H1 : HsAt b ⟨W.m, W.num, W.ct, W.A, W.S, W.E⟩ (h ++ g) := H.app
  have is1 := M.isI
  obtain ⟨h', E', e2, H2, O2, M2, fr⟩ := hs_rest O (by omega) H1 hi' hj' hne (by rw [m3]; omega) hL M (hR.good O hi' hj') (by omega)
  have both := tellRows_both O hi' hj' hne hR
  refine ⟨_, _, ⟨W.m, W.num, W.ct, W.A, tellRows i j W.S R, E'⟩, h', e1, is1, e2, ⟨O2, ⟨H2.hh⟩, m3, ?_⟩, rfl, rfl, rfl, fun x => (both x).1, fun x => (both x).2, fun k k1 k2 => tellRows_off k1 k2, fun k k1 k2 => ?_⟩
  · have := (List.getElem?_eq_some_iff.mp M2.ins).1
    omega
  · rw [fr k (.inr (by show b + 3 * W.m ≤ k; omega)) (by omega), List.getElem?_append_left k2]
theorem hs_acted {h1 : HM} {a : Act} {E : List (Mk × Fl)} (H : HsAt b W h) (hi : i < W.m) (H1 : HE h1 (b + 3 * i) (W.num i) (W.ct i + 1) E) (fr : Fr (b + 3 * i) h h1) : HsAt b (W.acted i a E) h1 := ⟨fun j hj => by
  have hj : j < W.m := hj
  show HE h1 (b + 3 * j) (W.num j) (up W.ct i (W.ct i + 1) j) (up W.E i E j)
  by_cases e : j = i
  · subst e; rw [up_same, up_same]; exact H1
  · rw [up_ne e, up_ne e]
    exact (H.hh j hj).same (fr.get _ (by omega) (by omega)) (fr.get _ (by omega) (by omega))⟩
def act18 (W : Wo) (i : Nat) (w : Mk) (kd : Kind) (t : Str) (F : Fl) : Act := ⟨W.A.length, w, (W.num i, W.ct i + 1), kd, t, pastOf (W.S i) w, F.first⟩
/-- an act on a file that the house has -/
theorem J18.act {h1 : HM} (J : J18 b W h) (hi : i < 3) (hF : getM (W.E i) w = some F) {kd : Kind} {t : Str} (hk : kd ≠ .make) (wt : PyData.strOk t = true) (wn : kd.nm = true → isName (.str t) = true) (wx : kd.tx = true → isText (.str t) = true)
    (H1 : HE h1 (b + 3 * i) (W.num i) (W.ct i + 1) (puM (W.E i) w (actF F (act18 W i w kd t F)))) (fr : Fr (b + 3 * i) h h1) : J18 b (W.acted i (act18 W i w kd t F) (puM (W.E i) w (actF F (act18 W i w kd t F)))) h1 := by
  obtain ⟨O, H, m3, hlen⟩ := J
  have hi' : i < W.m := by omega
  obtain ⟨⟨c, hc, hcw⟩, L, n, g⟩ := (O.sh i hi').ok w F hF
  have C := O.cl i hi'
  have ff : F.first = c.first := L.first c hc hcw
  have N : NewAct W.A (act18 W i w kd t F) := O.new hi' rfl rfl rfl (fun b hb e => by
    show b.first = F.first
    rw [ff]
    exact O.ok.first b hb c (C.sub c hc) (e.trans hcw.symm)) (by show Rg w; rw [← L.id]; exact g.id) ⟨g.first, g.fok⟩ wt wn wx (.inr ⟨c, hc, hcw⟩)
  exact ⟨O.acted hi' N rfl rfl (shelf_act O hi' N rfl hk hF), hs_acted H hi' H1 fr, m3, by rw [fr.len]; exact hlen⟩
/-- all acts are on one file -/
theorem one18 (O : WOk W) (hi : i < W.m) (hw : ∀ a ∈ W.A, a.which = w) (hex : ∃ a, a ∈ W.S i) : ∃ F, W.E i = [(w, F)] ∧ IsLeaf (W.S i) w F ∧ Gd W.A.length F := by
  have sh := O.sh i hi
  have C := O.cl i hi
  obtain ⟨a, ha⟩ := hex
  obtain ⟨F, hF⟩ := sh.all a ha
  rw [hw a (C.sub a ha)] at hF
  obtain ⟨_, L, _⟩ := sh.ok w F hF
  refine ⟨F, ?_, L, sh.gd C hF⟩
  have keys : ∀ p ∈ W.E i, p.1 = w := fun p hp => by
    have := mem_keysM.mp (List.mem_map.mpr ⟨p, hp, rfl⟩)
    rw [hasM_get, Option.isSome_iff_exists] at this
    obtain ⟨G, hG⟩ := this
    obtain ⟨⟨c, hc, e⟩, _⟩ := sh.ok _ _ hG
    rw [← e, hw c (C.sub c hc)]
  have nd := sh.nd
  cases e : W.E i with
  | nil => rw [e] at hF; cases hF
  | cons p t =>
    rw [e] at hF nd keys
    have p1 : p.1 = w := keys p List.mem_cons_self
    cases t with
    | nil =>
      obtain ⟨p1', G⟩ := p
      cases p1
      simp [getM] at hF
      rw [hF]
    | cons q t =>
      have q1 : q.1 = w := keys q (by simp)
      simp [p1, q1] at nd
end
end
end MM
namespace MM
open PySem L2 PySem.W
noncomputable section
def m_law_change : FM := mF 8 (sSeq (sAsg (eDisp mkTup (aNil)) (gNm 6))
  (sSeq (sAsg (eDisp mkTup (aNil)) (gNm 7))
  (sSeq (sIf (tOf (e2 vEq (e2 vMod (eVar 4) (eC (.int 2))) (eC (.int 1)))) (sSeq (sAsg (e2 vAdd (eVar 2) (eC (.int 1))) (gNm 2))
  (sSeq (sDrop (eMeth 0 m_House_write (eVar 0) (aCons (eVar 3) (aCons (e2 vIx (eVar 5) (eC (.int 0))) (aNil)))))
  (sAsg (eDisp mkTup (aCons (eDisp mkTup (aCons (eDisp mkTup (aCons (eVar 1) (aCons (eVar 2) (aNil)))) (aCons (e2 vIx (eVar 5) (eC (.int 0))) (aNil)))) (aNil))) (gNm 7)))) (sNil))
  (sSeq (sIf (tOf (e2 vEq (e2 vFdiv (eVar 4) (eC (.int 2))) (eC (.int 1)))) (sSeq (sAsg (e2 vAdd (eVar 2) (eC (.int 1))) (gNm 2))
  (sSeq (sDrop (eMeth 0 m_House_rename (eVar 0) (aCons (eVar 3) (aCons (e2 vIx (eVar 5) (eC (.int 1))) (aNil)))))
  (sAsg (eDisp mkTup (aCons (eDisp mkTup (aCons (eDisp mkTup (aCons (eVar 1) (aCons (eVar 2) (aNil)))) (aCons (e2 vIx (eVar 5) (eC (.int 1))) (aNil)))) (aNil))) (gNm 6)))) (sNil))
  (sRet (eDisp mkTup (aCons (eVar 2) (aCons (eVar 6) (aCons (eVar 7) (aNil))))))))))
def m_law_last : FM := mF 6 (sSeq (sIf (tOf (e2 vEq (eVar 4) (eC (.int 0)))) (sSeq (sDrop (eMeth 0 m_House_write (eVar 0) (aCons (e2 vIx (eVar 1) (eC (.int 0))) (aCons (e2 vIx (eVar 5) (eC (.int 0))) (aNil)))))
  (sRet (eDisp mkTup (aCons (e2 vIx (eVar 1) (eC (.int 0))) (aCons (e2 vIx (eVar 1) (eC (.int 1))) (aCons (eVar 2) (aCons (e2 vIx (eVar 1) (eC (.int 3))) (aCons (eDisp mkTup (aCons (eDisp mkTup (aCons (eVar 3) (aCons (e2 vIx (eVar 5) (eC (.int 0))) (aNil)))) (aNil))) (aNil))))))))) (sNil))
  (sSeq (sIf (tOf (e2 vEq (eVar 4) (eC (.int 1)))) (sSeq (sDrop (eMeth 0 m_House_rename (eVar 0) (aCons (e2 vIx (eVar 1) (eC (.int 0))) (aCons (e2 vIx (eVar 5) (eC (.int 1))) (aNil)))))
  (sRet (eDisp mkTup (aCons (e2 vIx (eVar 1) (eC (.int 0))) (aCons (e2 vIx (eVar 1) (eC (.int 1))) (aCons (eVar 2) (aCons (eDisp mkTup (aCons (eDisp mkTup (aCons (eVar 3) (aCons (e2 vIx (eVar 5) (eC (.int 1))) (aNil)))) (aNil))) (aCons (e2 vIx (eVar 1) (eC (.int 4))) (aNil))))))))) (sNil))
  (sSeq (sDrop (eMeth 0 m_House_drop (eVar 0) (aCons (e2 vIx (eVar 1) (eC (.int 0))) (aNil))))
  (sRet (eDisp mkTup (aCons (e2 vIx (eVar 1) (eC (.int 0))) (aCons (e2 vIx (eVar 1) (eC (.int 1))) (aCons (eVar 2) (aCons (eDisp mkTup (aNil)) (aCons (eDisp mkTup (aNil)) (aNil)))))))))))
def m_law_k18_f0 : SM := sDrop (eMeth 1 m_Meeting_rest (eMake 1 m_Meeting_init (aCons (e2 vIx (eVar 2) (eVar 22)) (aCons (e2 vIx (eVar 2) (e2 vMod (e2 vAdd (eVar 22) (eC (.int 1))) (eC (.int 3)))) (aNil)))) aNil)
def m_law_k18 : FM := mF 23 (sSeq (sAsg (eSl (eCall s_law_perm (aCons (eCall m_law_cell (aCons (eVar 0) (aCons (eC (.int 0)) (aNil)))) (aCons (eC (.int 6)) (aNil)))) (oNone) (oSome (eC (.int 3)))) (gNm 1))
  (sSeq (sAsg (eLc (iVal (eVar 1)) (gNm 3) (tYesM) (eMake 0 m_House_init (aCons (eVar 3) (aNil))) [3] frozen) (gNm 2))
  (sSeq (sAsg (eLc (iArgs rng1 (aCons (eC (.int 4)) (aNil))) (gNm 5) (tYesM) (eDisp mkTup (aCons (eCall m_law_text (aCons (e2 vSub (eCall m_law_cell (aCons (eVar 0) (aCons (e2 vAdd (eC (.int 1)) (eVar 5)) (aNil)))) (e2 vMod (eVar 5) (eC (.int 2)))) (aNil))) (aCons (eCall m_law_name (aCons (eCall m_law_cell (aCons (eVar 0) (aCons (e2 vAdd (eC (.int 1)) (eVar 5)) (aNil)))) (aNil))) (aNil)))) [5] frozen) (gNm 4))
  (sSeq (sAsg (eDisp mkTup (aCons (e2 vIx (eVar 1) (eC (.int 0))) (aCons (eC (.int 1)) (aNil)))) (gNm 6))
  (sSeq (sIf (tNotM (tTru (eCall s_law_same (aCons (eMeth 0 m_House_make (e2 vIx (eVar 2) (eC (.int 0))) (aCons (e2 vIx (e2 vIx (eVar 4) (eC (.int 2))) (eC (.int 1))) (aCons (e2 vIx (e2 vIx (eVar 4) (eC (.int 2))) (eC (.int 0))) (aNil)))) (aCons (eVar 6) (aNil)))))) (sRet (eC (.bl false))) (sNil))
  (sSeq (sDrop (eMeth 1 m_Meeting_rest (eMake 1 m_Meeting_init (aCons (e2 vIx (eVar 2) (eC (.int 0))) (aCons (e2 vIx (eVar 2) (eC (.int 1))) (aNil)))) aNil))
  (sSeq (sAsg (eDisp mkTup (aCons (e2 vMod (eCall m_law_cell (aCons (eVar 0) (aCons (eC (.int 5)) (aNil)))) (eC (.int 4))) (aCons (e2 vMod (eCall m_law_cell (aCons (eVar 0) (aCons (eC (.int 6)) (aNil)))) (eC (.int 4))) (aNil)))) (gNm 7))
  (sSeq (sAsg (eCall m_law_change (aCons (e2 vIx (eVar 2) (eC (.int 0))) (aCons (e2 vIx (eVar 1) (eC (.int 0))) (aCons (eC (.int 1)) (aCons (eVar 6) (aCons (e2 vIx (eVar 7) (eC (.int 0))) (aCons (e2 vIx (eVar 4) (eC (.int 0))) (aNil)))))))) (gTp 3 (gsCons (gNm 8) (gsCons (gNm 9) (gsCons (gNm 10) (gsNil))))))
  (sSeq (sAsg (eCall m_law_change (aCons (e2 vIx (eVar 2) (eC (.int 1))) (aCons (e2 vIx (eVar 1) (eC (.int 1))) (aCons (eC (.int 0)) (aCons (eVar 6) (aCons (e2 vIx (eVar 7) (eC (.int 1))) (aCons (e2 vIx (eVar 4) (eC (.int 1))) (aNil)))))))) (gTp 3 (gsCons (gNm 11) (gsCons (gNm 12) (gsCons (gNm 13) (gsNil))))))
  (sSeq (sAsg (eBi bTuple (aCons (eBi bSortedT (aCons (e2 vAdd (eVar 10) (eVar 13)) (aNil))) (aNil))) (gNm 10))
  (sSeq (sIf (tNotM (tTru (eVar 10))) (sAsg (eDisp mkTup (aCons (eDisp mkTup (aCons (eVar 6) (aCons (e2 vIx (e2 vIx (eVar 4) (eC (.int 2))) (eC (.int 0))) (aNil)))) (aNil))) (gNm 10)) (sNil))
  (sSeq (sAsg (eDisp mkRef (aCons (eDisp mkTup (aCons (e2 vIx (eVar 1) (eC (.int 0))) (aCons (eVar 8) (aNil)))) (aNil))) (gNm 14))
  (sSeq (sIf (tOf (e2 vGt (eVar 11) (eC (.int 0)))) (sDrop (eBm .list mAppend (eVar 14) (aCons (eDisp mkTup (aCons (e2 vIx (eVar 1) (eC (.int 1))) (aCons (eVar 11) (aNil)))) (aNil)))) (sNil))
  (sSeq (sAsg (eDisp mkTup (aCons (eVar 6) (aCons (e2 vIx (e2 vIx (eVar 4) (eC (.int 2))) (eC (.int 1))) (aCons (eBi bTuple (aCons (eBi bSorted (aCons (eVar 14) (aNil))) (aNil))) (aCons (eBi bTuple (aCons (eBi bSortedT (aCons (e2 vAdd (eVar 9) (eVar 12)) (aNil))) (aNil))) (aCons (eVar 10) (aNil))))))) (gNm 15))
  (sSeq (sDrop (eMeth 1 m_Meeting_rest (eMake 1 m_Meeting_init (aCons (e2 vIx (eVar 2) (eC (.int 1))) (aCons (e2 vIx (eVar 2) (eC (.int 0))) (aNil)))) aNil))
  (sSeq (sDrop (eMeth 1 m_Meeting_rest (eMake 1 m_Meeting_init (aCons (e2 vIx (eVar 2) (eC (.int 2))) (aCons (e2 vIx (eVar 2) (eC (.int 0))) (aNil)))) aNil))
  (sSeq (sIf (tNotM (tTru (eBi bAll (aCons (eLc (iVal (eVar 2)) (gNm 16) (tYesM) (eCall m_law_is_told_v1 (aCons (eVar 16) (aCons (eVar 15) (aNil)))) [16] frozen) (aNil))))) (sRet (eC (.bl false))) (sNil))
  (sSeq (sAsg (eCall m_law_mix (aCons (eCall m_law_cell (aCons (eVar 0) (aCons (eC (.int 7)) (aNil)))) (aCons (eC (.int 9811)) (aCons (eC (.int 3)) (aNil))))) (gNm 17))
  (sSeq (sAsg (eDisp mkTup (aCons (e2 vIx (eVar 1) (eVar 17)) (aCons (e2 vAdd (e2 vIx (eDisp mkTup (aCons (eVar 8) (aCons (eVar 11) (aCons (eC (.int 0)) (aNil))))) (eVar 17)) (eC (.int 1))) (aNil)))) (gNm 18))
  (sSeq (sAsg (eBi bDictK (aCons (eVar 14) (aNil))) (gNm 19))
  (sSeq (sSub (eVar 19) (e2 vIx (eVar 18) (eC (.int 0))) (e2 vIx (eVar 18) (eC (.int 1))))
  (sSeq (sAsg (eBi bTuple (aCons (eLc (iVal (eBi bSorted (aCons (eVar 19) (aNil)))) (gNm 16) (tYesM) (eDisp mkTup (aCons (eVar 16) (aCons (e2 vIx (eVar 19) (eVar 16)) (aNil)))) [16] frozen) (aNil))) (gNm 20))
  (sSeq (sAsg (eCall m_law_last (aCons (e2 vIx (eVar 2) (eVar 17)) (aCons (eVar 15) (aCons (eVar 20) (aCons (eVar 18) (aCons (eCall m_law_mix (aCons (eCall m_law_cell (aCons (eVar 0) (aCons (eC (.int 7)) (aNil)))) (aCons (eC (.int 9803)) (aCons (eC (.int 3)) (aNil))))) (aCons (e2 vIx (eVar 4) (eC (.int 3))) (aNil)))))))) (gNm 21))
  (sSeq (sFor (iVal (eDisp mkTup (aCons (eC (.int 0)) (aCons (eC (.int 1)) (aCons (eC (.int 2)) (aCons (eC (.int 0)) (aCons (eC (.int 1)) (aNil)))))))) (gNm 22) m_law_k18_f0)
  (sRet (eBi bAll (aCons (eLc (iVal (eVar 2)) (gNm 16) (tYesM) (eCall m_law_is_told_v1 (aCons (eVar 16) (aCons (eVar 21) (aNil)))) [16] frozen) (aNil))))))))))))))))))))))))))))
section
variable {b : Nat} {W : Wo} {h : HM} {i j : Nat} {w : Mk} {F : Fl}
theorem J18.app {g : HM} (J : J18 b W h) : J18 b W (h ++ g) := ⟨J.O, J.H.app, J.m, by simp; have := J.len; omega⟩
theorem puM_one {F G : Fl} : puM [(w, F)] w G = [(w, G)] := by simp [puM, hasM]
/-- what is given for a file that the house has alone -/
theorem J18.has (J : J18 b W h) (hl : W.A.length ≤ 20) (hi : i < 3) (hE : W.E i = [(w, F)]) : HE h (b + 3 * i) (W.num i) (W.ct i) [(w, F)] ∧ getM (W.E i) w = some F ∧ F.id = w ∧ (F.known.map (·.1)).Nodup ∧ F.known.length ≤ 1000 ∧ Gd 20 F := by
  have hi' : i < W.m := by rw [J.m]; exact hi
  have hF : getM (W.E i) w = some F := by rw [hE]; exact get_one
  obtain ⟨_, L, _⟩ := (J.O.sh i hi').ok w F hF
  have g := (J.O.sh i hi').gd (J.O.cl i hi') hF
  have := g.known.len
  refine ⟨by rw [← hE]; exact J.H.hh i hi', hF, L.id, g.known.nd, by omega, g.mono (by omega)⟩
def wA (W : Wo) (i : Nat) (w : Mk) (t : Str) (F : Fl) : Wo := W.acted i (act18 W i w .write t F) [(w, writeF F (W.num i, W.ct i + 1) t)]
def rA (W : Wo) (i : Nat) (w : Mk) (t : Str) (F : Fl) : Wo := W.acted i (act18 W i w .rename t F) [(w, renameF F (W.num i, W.ct i + 1) t)]
def dA (W : Wo) (i : Nat) (w : Mk) (F : Fl) : Wo := W.acted i (act18 W i w .drop (sg []) F) [(w, dropF F (W.num i, W.ct i + 1))]
theorem wr18 (J : J18 b W h) (hl : W.A.length ≤ 20) (hi : i < 3) (hE : W.E i = [(w, F)]) (ht : F.texts ≠ []) {t : Str} (tis : isText (.str t) = true) (tok : PyData.strOk t = true) (tl : t.length ≤ 1000000) :
    ∃ h', m_House_write [.ref (b + 3 * i), eM w, .str t] h = .ok .non h' ∧ J18 b (wA W i w t F) h' := by
  obtain ⟨H, hF, id, nd, lk, g⟩ := J.has hl hi hE
  obtain ⟨h', e, H1, fr⟩ := he_write H get_one id ht tis tl nd lk (by simp)
  refine ⟨h', e, ?_⟩
  have := J.act (h1 := h') (kd := .write) (t := t) hi hF (by simp) tok (fun z => (by cases z)) (fun _ => tis) (by rw [hE]; exact H1) fr
  rw [hE, puM_one] at this
  exact this
theorem rn18 (J : J18 b W h) (hl : W.A.length ≤ 20) (hi : i < 3) (hE : W.E i = [(w, F)]) (ht : F.texts ≠ []) {t : Str} (tis : isName (.str t) = true) (tok : PyData.strOk t = true) (tl : t.length ≤ 1000000) :
    ∃ h', m_House_rename [.ref (b + 3 * i), eM w, .str t] h = .ok .non h' ∧ J18 b (rA W i w t F) h' := by
  obtain ⟨H, hF, id, nd, lk, g⟩ := J.has hl hi hE
  obtain ⟨h', e, H1, fr⟩ := he_rename H get_one id ht tis tl nd lk (by simp)
  refine ⟨h', e, ?_⟩
  have := J.act (h1 := h') (kd := .rename) (t := t) hi hF (by simp) tok (fun _ => tis) (fun z => (by cases z)) (by rw [hE]; exact H1) fr
  rw [hE, puM_one] at this
  exact this
theorem dr18 (J : J18 b W h) (hl : W.A.length ≤ 20) (hi : i < 3) (hE : W.E i = [(w, F)]) (ht : F.texts ≠ []) :
    ∃ h', m_House_drop [.ref (b + 3 * i), eM w] h = .ok .non h' ∧ J18 b (dA W i w F) h' := by
  obtain ⟨H, hF, id, nd, lk, g⟩ := J.has hl hi hE
  obtain ⟨h', e, H1, fr⟩ := he_drop H get_one id ht nd lk (by simp)
  refine ⟨h', e, ?_⟩
  have := J.act (h1 := h') (kd := .drop) (t := sg []) hi hF (by simp) (by decide +kernel) (fun z => (by cases z)) (fun z => (by cases z)) (by rw [hE]; exact H1) fr
  rw [hE, puM_one] at this
  exact this
def chC (q c : Int) : Int := if q = 0 then c else if q = 3 then c + 2 else c + 1
def chT (q n c : Int) (t : Str) : List Wd := if q = 1 ∨ q = 3 then [((n, c + 1), t)] else []
def chN (q n c : Int) (x : Str) : List Wd := if q = 2 then [((n, c + 1), x)] else if q = 3 then [((n, c + 2), x)] else []
theorem within_up {n c : Int} {p : Mk} : (within p [(n, c + 1)] || within p [(n, c + 1 + 1)]) = within p [(n, c + 2)] := by
  rw [Bool.eq_iff_iff, Bool.or_eq_true]
  simp [within]
  constructor
  · rintro (⟨h1, h2⟩ | ⟨h1, h2⟩) <;> exact ⟨h1, by omega⟩
  · rintro ⟨h1, h2⟩; exact .inr ⟨h1, by omega⟩
/-- what a house's change makes -/
structure Ch (W W' : Wo) (i : Nat) (w : Mk) (F F' : Fl) (q : Int) (t x : Str) : Prop where
  num : W'.num = W.num
  ct : W'.ct = up W.ct i (chC q (W.ct i))
  A : ∃ L, W'.A = W.A ++ L ∧ L.length ≤ 2 ∧ (∀ a ∈ L, a.which = w) ∧ W'.S = up W.S i (W.S i ++ L)
  E : W'.E = up W.E i [(w, F')]
  first : F'.first = F.first
  names : F'.names = if chN q (W.num i) (W.ct i) x = [] then F.names else chN q (W.num i) (W.ct i) x
  texts : F'.texts = if chT q (W.num i) (W.ct i) t = [] then F.texts else chT q (W.num i) (W.ct i) t
  known : ∀ p, within p F'.known = (within p F.known || (if q = 0 then false else within p [(W.num i, chC q (W.ct i))]))
theorem at_change (J : J18 b W h) (hl : W.A.length ≤ 10) (hi : i < 3) (hE : W.E i = [(w, F)]) (ht : F.texts ≠ []) {q : Int} (q0 : 0 ≤ q) (q4 : q < 4) {t x : Str} (tis : isText (.str t) = true) (tok : PyData.strOk t = true) (tl : t.length ≤ 1000000) (xis : isName (.str x) = true) (xok : PyData.strOk x = true) (xl : x.length ≤ 1000000) :
    ∃ W' h' F', m_law_change [.ref (b + 3 * i), .int (W.num i), .int (W.ct i), eM w, .int q, .tup [.str t, .str x]] h = .ok (.tup [.int (chC q (W.ct i)), .tup ((chN q (W.num i) (W.ct i) x).map eW), .tup ((chT q (W.num i) (W.ct i) t).map eW)]) h' ∧ J18 b W' h' ∧ Ch W W' i w F F' q t x := by
  have hi' : i < W.m := by rw [J.m]; exact hi
  have c0 := (J.O.ct0 i hi').1
  have m0 : ∀ h, mkTup [] h = .ok (.tup []) h := fun h => ev_mkTup (by simp)
  have m1 : ∀ (p : Val) h, mkTup [p] h = .ok (.tup [p]) h := fun p h => ev_mkTup (by simp)
  have m2 : ∀ (p q : Val) h, mkTup [p, q] h = .ok (.tup [p, q]) h := fun p q h => ev_mkTup (by simp)
  have m3 : ∀ (p q r : Val) h, mkTup [p, q, r] h = .ok (.tup [p, q, r]) h := fun p q r h => ev_mkTup (by simp)
  have x0 : ∀ h, vIx (.tup [.str t, .str x]) (.int 0) h = .ok (.str t) h := fun h => rfl
  have x1 : ∀ h, vIx (.tup [.str t, .str x]) (.int 1) h = .ok (.str x) h := fun h => rfl
  have isI := (J.H.hh i hi').isI
  have md : ∀ (q : Int) h, vMod (.int q) (.int 2) h = .ok (.int (q % 2)) h := fun q h => ev_modI (by omega)
  have fd : ∀ (q : Int) h, vFdiv (.int q) (.int 2) h = .ok (.int (q / 2)) h := fun q h => by simp [vFdiv]
  obtain ⟨_, _, _, nd, _, g⟩ := J.has (by omega) hi hE
  have ek : ∀ (c : Int) (a : Int), eM (a, c) = .tup [.int a, .int c] := fun _ _ => rfl
  have qs : q = 0 ∨ q = 1 ∨ q = 2 ∨ q = 3 := by omega
  rcases qs with rfl | rfl | rfl | rfl
  · refine ⟨W, h, F, ?_, J, rfl, ?_, ⟨[], by simp, by simp, by simp, ?_⟩, ?_, rfl, by simp [chN], by simp [chT], fun p => by simp⟩
    · generalize eM w = wv at *
      unfold m_law_change mF
      simp [m0, m1, m2, m3, x0, x1, md, fd, chC, chN, chT, -ev_mkTup]
    · simp [chC, up_self]
    · simp [up_self]
    · rw [← hE, up_self]
  · obtain ⟨h1, e1, J1⟩ := wr18 J (by omega) hi hE ht tis tok tl
    refine ⟨_, h1, writeF F (W.num i, W.ct i + 1) t, ?_, J1, rfl, by simp [chC]; rfl, ⟨[act18 W i w .write t F], rfl, by simp, by simp [act18], rfl⟩, rfl, rfl, by simp [chN, writeF], by simp [chT, writeF], fun p => ?_⟩
    · generalize eM w = wv at *
      unfold m_law_change mF
      simp [m0, m1, m2, m3, x0, x1, md, fd, chC, chN, chT, isI, e1, eW, ek, -ev_mkTup]
    · simp only [writeF, chC]
      rw [within_joinK nd (by simp; omega)]
      simp
  · obtain ⟨h1, e1, J1⟩ := rn18 J (by omega) hi hE ht xis xok xl
    refine ⟨_, h1, renameF F (W.num i, W.ct i + 1) x, ?_, J1, rfl, by simp [chC]; rfl, ⟨[act18 W i w .rename x F], rfl, by simp, by simp [act18], rfl⟩, rfl, rfl, by simp [chN, renameF], by simp [chT, renameF], fun p => ?_⟩
    · generalize eM w = wv at *
      unfold m_law_change mF
      simp [m0, m1, m2, m3, x0, x1, md, fd, chC, chN, chT, isI, e1, eW, ek, -ev_mkTup]
    · simp only [renameF, chC]
      rw [within_joinK nd (by simp; omega)]
      simp
  · obtain ⟨h1, e1, J1⟩ := wr18 J (by omega) hi hE ht tis tok tl
    have hE1 : (wA W i w t F).E i = [(w, writeF F (W.num i, W.ct i + 1) t)] := up_same
    have l1 : (wA W i w t F).A.length = W.A.length + 1 := by show (W.A ++ [_]).length = _; simp
    have ht1 : (writeF F (W.num i, W.ct i + 1) t).texts ≠ [] := by simp [writeF]
    obtain ⟨h2, e2, J2⟩ := rn18 J1 (by omega) hi hE1 ht1 xis xok xl
    have isI1 := (J1.H.hh i (by rw [J1.m]; exact hi)).isI
    have cc : (wA W i w t F).ct i = W.ct i + 1 := up_same
    have cn : (wA W i w t F).num i = W.num i := rfl
    obtain ⟨_, _, _, nd1, _, _⟩ := J1.has (by omega) hi hE1
    refine ⟨_, h2, renameF (writeF F (W.num i, W.ct i + 1) t) (W.num i, W.ct i + 1 + 1) x, ?_, J2, rfl, ?_, ⟨[act18 W i w .write t F, act18 (wA W i w t F) i w .rename x (writeF F (W.num i, W.ct i + 1) t)], ?_, by simp, by simp [act18], ?_⟩, ?_, rfl, ?_, ?_, fun p => ?_⟩
    · have aa : W.ct i + 1 + 1 = W.ct i + 2 := by omega
      generalize eM w = wv at *
      unfold m_law_change mF
      simp [m0, m1, m2, m3, x0, x1, md, fd, chC, chN, chT, isI, isI1, e1, e2, eW, ek, aa, -ev_mkTup]
    · show up (up W.ct i (W.ct i + 1)) i (up W.ct i (W.ct i + 1) i + 1) = _
      rw [up_up, up_same]
      have : W.ct i + 1 + 1 = chC 3 (W.ct i) := by simp [chC]; omega
      rw [this]
    · show (W.A ++ [_]) ++ [_] = _
      simp
    · show up (up W.S i (W.S i ++ [_])) i (up W.S i (W.S i ++ [_]) i ++ [_]) = _
      rw [up_up, up_same, List.append_assoc]
      rfl
    · show up (up W.E i _) i [(w, renameF _ ((wA W i w t F).num i, (wA W i w t F).ct i + 1) x)] = _
      rw [up_up, cc]
      rfl
    · have aa : W.ct i + 1 + 1 = W.ct i + 2 := by omega
      simp [chN, renameF, aa]
    · simp [chT, renameF, writeF]
    · have k2 : within p (renameF (writeF F (W.num i, W.ct i + 1) t) (W.num i, W.ct i + 1 + 1) x).known = (within p (writeF F (W.num i, W.ct i + 1) t).known || within p [(W.num i, W.ct i + 1 + 1)]) := within_joinK nd1 (by simp; omega)
      have k1 : within p (writeF F (W.num i, W.ct i + 1) t).known = (within p F.known || within p [(W.num i, W.ct i + 1)]) := within_joinK nd (by simp; omega)
      rw [k2, k1, Bool.or_assoc, within_up]
      simp [chC]
/-- what both changes come to -/
theorem mem_join18 {A B base : List Wd} {kx ky : List Mk} (hA : ∀ p ∈ A, within p.1 ky = false) (hB : ∀ p ∈ B, within p.1 kx = false) (hx : ∀ p ∈ base, within p.1 kx = true) (hy : ∀ p ∈ base, within p.1 ky = true) (p : Wd) :
    p ∈ joinW (if A = [] then base else A) kx (if B = [] then base else B) ky ↔ p ∈ (if A = [] ∧ B = [] then base else A ++ B) := by
  rw [mem_joinW]
  by_cases a : A = []
  · by_cases c : B = []
    · simp only [a, c, if_true, and_self]
      constructor
      · rintro (⟨z, _⟩ | ⟨z, _⟩) <;> exact z
      · exact fun z => .inl ⟨z, .inl z⟩
    · simp only [a, c, if_true, if_false, and_false, List.nil_append]
      constructor
      · rintro (⟨z, z2 | z2⟩ | ⟨z, _⟩)
        · exact z2
        · rw [hy p z] at z2; cases z2
        · exact z
      · exact fun z => .inr ⟨z, .inr (hB p z)⟩
  · by_cases c : B = []
    · simp only [a, c, if_true, if_false, false_and, List.append_nil]
      constructor
      · rintro (⟨z, _⟩ | ⟨z, z2 | z2⟩)
        · exact z
        · exact z2
        · rw [hx p z] at z2; cases z2
      · exact fun z => .inl ⟨z, .inr (hA p z)⟩
    · simp only [a, c, if_false, false_and, List.mem_append]
      constructor
      · rintro (⟨z, _⟩ | ⟨z, _⟩)
        · exact .inl z
        · exact .inr z
      · rintro (z | z)
        · exact .inl ⟨z, .inr (hA p z)⟩
        · exact .inr ⟨z, .inr (hB p z)⟩
theorem chT_at {q n c : Int} {t : Str} {p : Wd} (h : p ∈ chT q n c t) : p.1.1 = n ∧ c + 1 ≤ p.1.2 := by
  unfold chT at h
  split at h
  · simp at h; subst h; exact ⟨rfl, Int.le_refl _⟩
  · cases h
theorem chN_at {q n c : Int} {t : Str} {p : Wd} (h : p ∈ chN q n c t) : p.1.1 = n ∧ c + 1 ≤ p.1.2 := by
  unfold chN at h
  split at h
  · simp at h; subst h; exact ⟨rfl, Int.le_refl _⟩
  · split at h
    · simp at h; subst h; exact ⟨rfl, by show c + 1 ≤ c + 2; omega⟩
    · cases h
theorem chT_len {q n c : Int} {t : Str} : (chT q n c t).length ≤ 1 := by unfold chT; split <;> simp
theorem chN_len {q n c : Int} {t : Str} : (chN q n c t).length ≤ 1 := by
  unfold chN
  split
  · simp
  · split <;> simp
theorem nd_wd {xs : List Wd} (h : (xs.map (·.1)).Nodup) : xs.Nodup := (List.pairwise_map.mp h).imp fun h e => h (congrArg Prod.fst e)
theorem nd_one {xs : List Wd} (h : xs.length ≤ 1) : xs.Nodup := by
  match xs with
  | [] => simp
  | [x] => simp
  | _ :: _ :: _ => simp at h
theorem nd_app {n m : Int} {A B : List Wd} (hne : n ≠ m) (la : A.length ≤ 1) (lb : B.length ≤ 1) (ha : ∀ p ∈ A, p.1.1 = n) (hb : ∀ p ∈ B, p.1.1 = m) : (A ++ B).Nodup := by
  rw [List.nodup_append]
  exact ⟨nd_one la, nd_one lb, fun x hx y hy e => hne ((ha x hx).symm.trans (e ▸ hb y hy))⟩
def kn18 (n0 n1 c0 c1 : Int) : List Mk := (n0, c0) :: if 0 < c1 then [(n1, c1)] else []
theorem kn18_nd {n0 n1 c0 c1 : Int} (hne : n0 ≠ n1) : ((kn18 n0 n1 c0 c1).map (·.1)).Nodup := by
  unfold kn18
  split <;> simp [hne]
def G18 (n0 n1 q0 q1 : Int) (x t x0 t0 x1 t1 : Str) : Fl :=
  ⟨(n0, 1), x, srt (kn18 n0 n1 (chC q0 1) (chC q1 0)), srt (chN q0 n0 1 x0 ++ chN q1 n1 0 x1), if chT q0 n0 1 t0 ++ chT q1 n1 0 t1 = [] then [((n0, 1), t)] else srt (chT q0 n0 1 t0 ++ chT q1 n1 0 t1)⟩
theorem chC_up {q c : Int} (q0 : 0 ≤ q) : c ≤ chC q c := by unfold chC; split <;> (try split) <;> omega
theorem chC_pos {q : Int} (q0 : 0 ≤ q) (h : q ≠ 0) : 0 < chC q 0 := by unfold chC; rw [if_neg h]; split <;> omega
theorem join18 {n0 n1 q0 q1 : Int} {x t x0 t0 x1 t1 : Str} {F3 F4 : Fl} {k : Nat} (hne : n0 ≠ n1) (hq0 : 0 ≤ q0) (hq1 : 0 ≤ q1) (g3 : Gd k F3) (g4 : Gd k F4) (i3 : F3.id = (n0, 1)) (f3 : F3.first = x)
    (nm3 : F3.names = if chN q0 n0 1 x0 = [] then [] else chN q0 n0 1 x0) (nm4 : F4.names = if chN q1 n1 0 x1 = [] then [] else chN q1 n1 0 x1)
    (tx3 : F3.texts = if chT q0 n0 1 t0 = [] then [((n0, 1), t)] else chT q0 n0 1 t0) (tx4 : F4.texts = if chT q1 n1 0 t1 = [] then [((n0, 1), t)] else chT q1 n1 0 t1)
    (k3 : ∀ p, within p F3.known = (within p [(n0, 1)] || (if q0 = 0 then false else within p [(n0, chC q0 1)])))
    (k4 : ∀ p, within p F4.known = (within p [(n0, 1)] || (if q1 = 0 then false else within p [(n1, chC q1 0)]))) : joinF F3 F4 = G18 n0 n1 q0 q1 x t x0 t0 x1 t1 := by
  have w3 : ∀ p : Mk, p.1 = n1 → within p F3.known = false := fun p e => by
    rw [k3]
    split <;> simp [within, e, hne]
  have w4 : ∀ p : Mk, p.1 = n0 → 2 ≤ p.2 → within p F4.known = false := fun p e e2 => by
    have : ¬ p.2 ≤ 1 := by omega
    rw [k4]
    split <;> simp [within, e, hne.symm, this]
  have b3 : within (n0, 1) F3.known = true := by rw [k3]; simp [within]
  have b4 : within (n0, 1) F4.known = true := by rw [k4]; simp [within]
  have e3 : srt (joinK F3.known F4.known) = srt (kn18 n0 n1 (chC q0 1) (chC q1 0)) := by
    refine known_eq (keys_srt (joinK_keys g3.known.nd)) (keys_srt (kn18_nd hne)) (srt_srt _) (srt_srt _) fun p => ?_
    rw [within_joinK g3.known.nd g4.known.pos, within_srt, k3, k4]
    have c1 := chC_up (c := 1) hq0
    unfold kn18
    by_cases a : q0 = 0
    · by_cases c : q1 = 0
      · simp [a, c, chC, within]
      · have := chC_pos hq1 c
        simp [a, c, chC_pos hq1 c, within]
        simp [chC]
    · have up1 : within p [(n0, 1)] = true → within p [(n0, chC q0 1)] = true := by
        simp [within]
        intro h1 h2
        exact ⟨h1, by omega⟩
      by_cases c : q1 = 0
      · simp only [a, c, if_false, if_true, Bool.or_false]
        rw [if_neg (by simp [chC])]
        cases e : within p [(n0, 1)] with
        | false => simp
        | true => rw [up1 e]; rfl
      · simp only [a, c, if_false]
        rw [if_pos (chC_pos hq1 c), within_cons (b := [_])]
        cases e : within p [(n0, 1)] with
        | false => simp
        | true => rw [up1 e]; rfl
  have e4 : srt (joinW F3.names F3.known F4.names F4.known) = srt (chN q0 n0 1 x0 ++ chN q1 n1 0 x1) := by
    refine srt_eq (joinW_nd (nd_wd g3.names.nd) (nd_wd g4.names.nd)) (nd_app hne chN_len chN_len (fun p hp => (chN_at hp).1) fun p hp => (chN_at hp).1) fun p => ?_
    rw [nm3, nm4, mem_join18 (fun p hp => w4 _ (chN_at hp).1 (chN_at hp).2) (fun p hp => w3 _ (chN_at hp).1) (fun p hp => (by cases hp)) (fun p hp => (by cases hp))]
    split
    · rename_i z; simp [z.1, z.2]
    · rfl
  have e5 : srt (joinW F3.texts F3.known F4.texts F4.known) = if chT q0 n0 1 t0 ++ chT q1 n1 0 t1 = [] then [((n0, 1), t)] else srt (chT q0 n0 1 t0 ++ chT q1 n1 0 t1) := by
    have r : (if chT q0 n0 1 t0 ++ chT q1 n1 0 t1 = [] then [((n0, 1), t)] else srt (chT q0 n0 1 t0 ++ chT q1 n1 0 t1)) = srt (if chT q0 n0 1 t0 = [] ∧ chT q1 n1 0 t1 = [] then [((n0, 1), t)] else chT q0 n0 1 t0 ++ chT q1 n1 0 t1) := by
      by_cases z : chT q0 n0 1 t0 = [] ∧ chT q1 n1 0 t1 = []
      · rw [if_pos z, if_pos (by simp [z.1, z.2])]; exact srt_one.symm
      · rw [if_neg z, if_neg (by simpa using z)]
    rw [r]
    refine srt_eq (joinW_nd (nd_wd g3.texts.nd) (nd_wd g4.texts.nd)) ?_ fun p => ?_
    · split
      · simp
      · exact nd_app hne chT_len chT_len (fun p hp => (chT_at hp).1) fun p hp => (chT_at hp).1
    · rw [tx3, tx4, mem_join18 (fun p hp => w4 _ (chT_at hp).1 (chT_at hp).2) (fun p hp => w3 _ (chT_at hp).1) (fun p hp => by simp at hp; subst hp; exact b3) (fun p hp => by simp at hp; subst hp; exact b4)]
  unfold joinF G18
  rw [e3, e4, e5, i3, f3]
/-- the last act -/
theorem at_last18 (J : J18 b W h) (hl : W.A.length ≤ 15) (hi : i < 3) (hE : W.E i = [(w, F)]) (ht : F.texts ≠ []) {q : Int} (q0 : 0 ≤ q) (q3 : q < 3) {t x : Str} (tis : isText (.str t) = true) (tok : PyData.strOk t = true) (tl : t.length ≤ 1000000) (xis : isName (.str x) = true) (xok : PyData.strOk x = true) (xl : x.length ≤ 1000000) {kn : List Mk} (hkn : kn = srt (joinK F.known [(W.num i, W.ct i + 1)])) :
    ∃ a F' h', m_law_last [.ref (b + 3 * i), eT F, .tup (kn.map eM), eM (W.num i, W.ct i + 1), .int q, .tup [.str t, .str x]] h = .ok (eT F') h' ∧ J18 b (W.acted i a [(w, F')]) h' ∧ a.which = w ∧ a.idx = W.A.length := by
  have hi' : i < W.m := by rw [J.m]; exact hi
  have m1 : ∀ (p : Val) h, mkTup [p] h = .ok (.tup [p]) h := fun p h => ev_mkTup (by simp)
  have m0 : ∀ h, mkTup [] h = .ok (.tup []) h := fun h => ev_mkTup (by simp)
  have m2 : ∀ (p q : Val) h, mkTup [p, q] h = .ok (.tup [p, q]) h := fun p q h => ev_mkTup (by simp)
  have m5 : ∀ (p q r s t : Val) h, mkTup [p, q, r, s, t] h = .ok (.tup [p, q, r, s, t]) h := fun p q r s t h => ev_mkTup (by simp)
  have x0 : ∀ h, vIx (.tup [.str t, .str x]) (.int 0) h = .ok (.str t) h := fun h => rfl
  have x1 : ∀ h, vIx (.tup [.str t, .str x]) (.int 1) h = .ok (.str x) h := fun h => rfl
  obtain ⟨_, _, id, nd, _, g⟩ := J.has (by omega) hi hE
  have f0 : ∀ h, vIx (eT F) (.int 0) h = .ok (eM w) h := fun _ => by rw [← id]; rfl
  have f1 : ∀ h, vIx (eT F) (.int 1) h = .ok (.str F.first) h := fun _ => rfl
  have f3 : ∀ h, vIx (eT F) (.int 3) h = .ok (.tup (F.names.map eW)) h := fun _ => rfl
  have f4 : ∀ h, vIx (eT F) (.int 4) h = .ok (.tup (F.texts.map eW)) h := fun _ => rfl
  have isI := (J.H.hh i hi').isI
  have qs : q = 0 ∨ q = 1 ∨ q = 2 := by omega
  rcases qs with rfl | rfl | rfl
  · obtain ⟨h1, e1, J1⟩ := wr18 J (by omega) hi hE ht tis tok tl
    refine ⟨act18 W i w .write t F, writeF F (W.num i, W.ct i + 1) t, h1, ?_, J1, rfl, rfl⟩
    have r : eT (writeF F (W.num i, W.ct i + 1) t) = .tup [eM w, .str F.first, .tup (kn.map eM), .tup (F.names.map eW), .tup [.tup [eM (W.num i, W.ct i + 1), .str t]]] := by rw [hkn, ← id]; rfl
    rw [r]
    generalize eM w = wv at *
    generalize eM (W.num i, W.ct i + 1) = mv at *
    generalize eT F = fv at *
    unfold m_law_last mF
    simp [m0, m1, m2, m5, x0, x1, f0, f1, f3, f4, isI, e1, -ev_mkTup]
  · obtain ⟨h1, e1, J1⟩ := rn18 J (by omega) hi hE ht xis xok xl
    refine ⟨act18 W i w .rename x F, renameF F (W.num i, W.ct i + 1) x, h1, ?_, J1, rfl, rfl⟩
    have r : eT (renameF F (W.num i, W.ct i + 1) x) = .tup [eM w, .str F.first, .tup (kn.map eM), .tup [.tup [eM (W.num i, W.ct i + 1), .str x]], .tup (F.texts.map eW)] := by rw [hkn, ← id]; rfl
    rw [r]
    generalize eM w = wv at *
    generalize eM (W.num i, W.ct i + 1) = mv at *
    generalize eT F = fv at *
    unfold m_law_last mF
    simp [m0, m1, m2, m5, x0, x1, f0, f1, f3, f4, isI, e1, -ev_mkTup]
  · obtain ⟨h1, e1, J1⟩ := dr18 J (by omega) hi hE ht
    refine ⟨act18 W i w .drop (sg []) F, dropF F (W.num i, W.ct i + 1), h1, ?_, J1, rfl, rfl⟩
    have r : eT (dropF F (W.num i, W.ct i + 1)) = .tup [eM w, .str F.first, .tup (kn.map eM), .tup [], .tup []] := by rw [hkn, ← id]; rfl
    rw [r]
    generalize eM w = wv at *
    generalize eM (W.num i, W.ct i + 1) = mv at *
    generalize eT F = fv at *
    unfold m_law_last mF
    simp [m0, m1, m2, m5, x0, x1, f0, f1, f3, f4, isI, e1, -ev_mkTup]
/-- all three houses tell what is due -/
theorem all18 (J : J18 b W h) (hl : W.A.length ≤ 20) (hE : ∀ i, i < 3 → W.E i = [(w, F)]) {l : Loc} {s : Nat} (hg : ∀ x, ∃ l1, gNm 16 x l = some l1 ∧ (∀ h, eVar 16 l1 h = .ok x h) ∧ ∀ h, eVar s l1 h = .ok (eT F) h) :
    ∃ g, lcL (srcItems [.ref (b + 3 * 0), .ref (b + 3 * 1), .ref (b + 3 * 2)]) (gNm 16) tYesM (eCall m_law_is_told_v1 (aCons (eVar 16) (aCons (eVar s) (aNil)))) l (srcItems [.ref (b + 3 * 0), .ref (b + 3 * 1), .ref (b + 3 * 2)]).len 0 h [] = .ok [.bl true, .bl true, .bl true] (h ++ g) := by
  obtain ⟨_, _, id, _, _, g⟩ := J.has hl (by omega : 0 < 3) (hE 0 (by omega))
  obtain ⟨ys, h', e, ⟨g', rfl⟩, rfl⟩ := lc_inv (xs := [Val.ref (b + 3 * 0), .ref (b + 3 * 1), .ref (b + 3 * 2)]) (g := gNm 16) (te := eCall m_law_is_told_v1 (aCons (eVar 16) (aCons (eVar s) (aNil)))) (l := l) (h := h)
    (fun i acc h' => (∃ g, h' = h ++ g) ∧ acc = List.replicate i (.bl true)) ⟨⟨[], by simp⟩, rfl⟩ (by
    rintro i x acc h' hx ⟨⟨g1, rfl⟩, rfl⟩
    have hi : i < 3 := (List.getElem?_eq_some_iff.mp hx).1
    have hx2 : x = .ref (b + 3 * i) := by
      have : i = 0 ∨ i = 1 ∨ i = 2 := by omega
      rcases this with rfl | rfl | rfl <;> (cases hx; rfl)
    obtain ⟨l1, e1, e2, e3⟩ := hg x
    have J1 := J.app (g := g1)
    obtain ⟨H, _⟩ := J1.has hl hi (hE i hi)
    obtain ⟨g2, e4⟩ := at_told H g (by omega) id
    refine ⟨l1, _, _, e1, ?_, ⟨g1 ++ g2, rfl⟩, by rw [List.replicate_succ']⟩
    simp only [ev_eCall, ev_aCons, ev_aNil, e2, e3, Res.bind_ok, hx2, e4]
    simp) (by rw [sizeLine_eq]; simp)
  exact ⟨g', e⟩
/-- of all houses alike -/
theorem alike18 (O : WOk W) (m3 : W.m = 3) {S : List Act} {G : Fl} {k : Nat} (hw : ∀ a ∈ W.A, a.which = w) (hi : i < 3) (hS : ∀ a, a ∈ W.S i ↔ a ∈ S) (hex : ∃ a, a ∈ S) (LG : IsLeaf S w G) (gG : Gd k G) : W.E i = [(w, G)] := by
  have hi' : i < W.m := by omega
  obtain ⟨a, ha⟩ := hex
  obtain ⟨F, e, L, g⟩ := one18 O hi' hw ⟨a, (hS a).mpr ha⟩
  rw [e, L.uniq LG g gG (fun a _ => hS a) ⟨a, (hS a).mpr ha, hw a ((O.cl i hi').sub a ((hS a).mpr ha))⟩]
theorem look_sorted {K : List Mk} (nd : (K.map (·.1)).Nodup) (c : Int → Int) (hc : ∀ m ∈ K, c m.1 = m.2) : (srt (K.map (·.1))).map (fun k => eM (k, c k)) = (srt K).map eM := by
  have e : (srt (K.map (·.1))).map (fun k => ((k, c k) : Mk)) = srt K := by
    have nk : (srt (K.map (·.1))).Nodup := srt_nd nd
    have ndl : ((srt (K.map (·.1))).map (fun k => ((k, c k) : Mk))).Nodup := by
      rw [List.Nodup, List.pairwise_map]
      exact nk.imp fun h e => h (congrArg Prod.fst e)
    have sl : Sd ((srt (K.map (·.1))).map (fun k => ((k, c k) : Mk))) := by
      refine sd_of_pw ?_
      rw [List.pairwise_map]
      have nk2 : List.Pairwise (fun a b : Int => a ≠ b) (srt (K.map (·.1))) := nk
      have := (srt_pw (K.map (·.1))).and nk2
      refine this.imp fun {a b} ⟨h1, h2⟩ => ?_
      have h3 : DatumOrd.lt a b = true := by
        cases e : DatumOrd.lt a b with
        | true => rfl
        | false => exact absurd (EncO.tri a b e h1) h2
      rw [lt_pair, if_neg h2]; exact h3
    have sk : Sd (srt K) := srt_srt K
    refine sd_eq sl sk ndl (srt_nd (nd_of_keys nd)) fun m => ?_
    rw [List.mem_map, srt_mem]
    constructor
    · rintro ⟨k, hk, rfl⟩
      obtain ⟨m, hm, rfl⟩ := List.mem_map.mp (srt_mem.mp hk)
      rw [hc m hm]; exact hm
    · intro hm
      exact ⟨m.1, srt_mem.mpr (List.mem_map.mpr ⟨m, hm, rfl⟩), by rw [hc m hm]⟩
  rw [← e, List.map_map]
  rfl
def turnK (r : Nat) : Nat := [0, 1, 2, 0, 1].getD r 0
def hs18 (at_ : Nat) : Nat → Nat → Bool
  | 0, i => i == at_
  | r + 1, i => hs18 at_ r i || ((i == turnK r || i == (turnK r + 1) % 3) && (hs18 at_ r (turnK r) || hs18 at_ r ((turnK r + 1) % 3)))
theorem hs18_all : ∀ at_, at_ < 3 → ∀ i, i < 3 → hs18 at_ 5 i = true := by decide
/-- five meetings -/
theorem loop18 (J : J18 b W h) (hl : W.A.length ≤ 20) {at_ : Nat} (hat : at_ < 3) (full : ∀ x ∈ W.A, x ∈ W.S at_) {l : Loc} (hl23 : ∃ a0 a1 t, l = a0 :: a1 :: some (.lst [.ref (b + 3 * 0), .ref (b + 3 * 1), .ref (b + 3 * 2)]) :: t ∧ t.length = 20) :
    ∃ W' h' l', forL (srcItems [.int 0, .int 1, .int 2, .int 0, .int 1]) (gNm 22) m_law_k18_f0 (srcItems [.int 0, .int 1, .int 2, .int 0, .int 1]).len 0 l h = .nx l' h' ∧ (∃ v, l' = l.set 22 v) ∧ J18 b W' h' ∧ W'.A = W.A ∧ ∀ i, i < 3 → ∀ x, x ∈ W'.S i ↔ x ∈ W.A := by
  obtain ⟨a0, a1, t, rfl, lt⟩ := hl23
  obtain ⟨l', h', e, W', hv, J', hA, hm⟩ := for_inv (xs := [Val.int 0, .int 1, .int 2, .int 0, .int 1]) (g := gNm 22) (b := m_law_k18_f0) (l := a0 :: a1 :: some (.lst [.ref (b + 3 * 0), .ref (b + 3 * 1), .ref (b + 3 * 2)]) :: t) (h := h)
    (fun r l' h' => ∃ W', (∃ v, l' = (a0 :: a1 :: some (.lst [.ref (b + 3 * 0), .ref (b + 3 * 1), .ref (b + 3 * 2)]) :: t).set 22 v) ∧ J18 b W' h' ∧ W'.A = W.A ∧ ∀ i, i < 3 → hs18 at_ r i = true → ∀ x ∈ W.A, x ∈ W'.S i)
    ⟨W, ⟨t[19]'(by omega), by
      have : (a0 :: a1 :: some (.lst [.ref (b + 3 * 0), .ref (b + 3 * 1), .ref (b + 3 * 2)]) :: t)[22]? = some (t[19]'(by omega)) := by simp; 
      exact (List.set_getElem_self (as := a0 :: a1 :: some (.lst [.ref (b + 3 * 0), .ref (b + 3 * 1), .ref (b + 3 * 2)]) :: t) (i := 22) (by simp; omega)).symm⟩, J, rfl, fun i hi e x hx => by
      have : i = at_ := by simpa [hs18] using e
      rw [this]; exact full x hx⟩ (by
    rintro r x l' h' hx ⟨W', ⟨v, rfl⟩, J', hA, hm⟩
    have hr : r < 5 := (List.getElem?_eq_some_iff.mp hx).1
    obtain ⟨k, k2, hk, hk2, hne, ek, ek2, ex⟩ : ∃ k k2 : Nat, k < 3 ∧ k2 < 3 ∧ k ≠ k2 ∧ turnK r = k ∧ (k + 1) % 3 = k2 ∧ x = .int (k : Nat) := by
      have : r = 0 ∨ r = 1 ∨ r = 2 ∨ r = 3 ∨ r = 4 := by omega
      rcases this with rfl | rfl | rfl | rfl | rfl <;> (cases hx; exact ⟨_, _, by decide, by decide, by decide, rfl, rfl, rfl⟩)
    obtain ⟨hm1, rr, W2, h2, e1, is1, e2, J2, _, _, hA2, S1, S2, S3, _⟩ := meet18 J' (by rw [hA]; exact hl) hk hk2 hne
    have l1 : (∃ l1, gNm 22 x ((a0 :: a1 :: some (.lst [.ref (b + 3 * 0), .ref (b + 3 * 1), .ref (b + 3 * 2)]) :: t).set 22 v) = some l1 ∧ l1 = (a0 :: a1 :: some (.lst [.ref (b + 3 * 0), .ref (b + 3 * 1), .ref (b + 3 * 2)]) :: t).set 22 (some x) ∧ (∀ h, eVar 22 l1 h = .ok x h) ∧ ∀ h, eVar 2 l1 h = .ok (.lst [.ref (b + 3 * 0), .ref (b + 3 * 1), .ref (b + 3 * 2)]) h) := by
      refine ⟨_, ?_, rfl, fun h => ?_, fun h => ?_⟩
      · have lt2 : 22 < ((a0 :: a1 :: some (.lst [.ref (b + 3 * 0), .ref (b + 3 * 1), .ref (b + 3 * 2)]) :: t).set 22 v).length := by simp; omega
        unfold gNm
        rw [List.set_set]
      · unfold eVar
        simp [lt]
      · unfold eVar
        simp
    obtain ⟨l1, g1, rfl, v22, v2⟩ := l1
    refine ⟨_, _, h2, g1, ?_, W2, ⟨some x, rfl⟩, J2, hA2.trans hA, fun i hi e y hy => ?_⟩
    · have ix1 : ∀ h, vIx (.lst [.ref (b + 3 * 0), .ref (b + 3 * 1), .ref (b + 3 * 2)]) x h = .ok (.ref (b + 3 * k)) h := fun h => by
        have : k = 0 ∨ k = 1 ∨ k = 2 := by omega
        rw [ex]
        rcases this with rfl | rfl | rfl <;> rfl
      have ix2 : ∀ h, vIx (.lst [.ref (b + 3 * 0), .ref (b + 3 * 1), .ref (b + 3 * 2)]) (.int (((k : Nat) + 1) % 3)) h = .ok (.ref (b + 3 * k2)) h := fun h => by
        have : k = 0 ∨ k = 1 ∨ k = 2 := by omega
        rcases this with rfl | rfl | rfl <;> (subst ek2; rfl)
      have ad : ∀ h, vAdd x (.int 1) h = .ok (.int ((k : Nat) + 1)) h := fun h => by rw [ex]; exact ev_addI
      have mo : ∀ h, vMod (.int ((k : Nat) + 1)) (.int 3) h = .ok (.int (((k : Nat) + 1) % 3)) h := fun h => ev_modI (by omega)
      unfold m_law_k18_f0
      simp only [ev_sDrop, ev_eMeth, ev_eMake, ev_aCons, ev_aNil, ev_e2, v22, v2, ev_C, Res.bind_ok, ix1, ad, mo, ix2, e1, is1, if_true, e2, Res.thn_ok]
    · rw [hs18, ek, ek2] at e
      have mono : ∀ q y, y ∈ W'.S q → y ∈ W2.S q := fun q y hy => by
        by_cases c1 : q = k
        · subst c1; exact (S1 y).mpr (.inl hy)
        · by_cases c2 : q = k2
          · subst c2; exact (S2 y).mpr (.inr hy)
          · rw [S3 q c1 c2]; exact hy
      rw [Bool.or_eq_true, Bool.and_eq_true, Bool.or_eq_true, Bool.or_eq_true] at e
      rcases e with e | ⟨e1, e2⟩
      · exact mono i y (hm i hi e y hy)
      · have src : y ∈ W'.S k ∨ y ∈ W'.S k2 := by
          rcases e2 with e2 | e2
          · exact .inl (hm k hk e2 y hy)
          · exact .inr (hm k2 hk2 e2 y hy)
        rcases e1 with e1 | e1
        · have : i = k := by simpa using e1
          subst this; exact (S1 y).mpr src
        · have : i = k2 := by simpa using e1
          subst this; exact (S2 y).mpr src)
  refine ⟨W', h', l', e, hv, J', hA, fun i hi x => ⟨fun hx => ?_, fun hx => hm i hi (hs18_all at_ hat i hi) x hx⟩⟩
  rw [← hA]
  exact (J'.O.cl i (by rw [J'.m]; exact hi)).sub x hx
theorem sts {l l1 : Loc} {h h1 : HM} {a b : SM} (e : a l h = .nx l1 h1) : sSeq a b l h = b l1 h1 := by rw [ev_sSeq, e]
theorem start18 {ns : List Int} {l : Loc} (hl : l.length = 23) : ∃ g1, lcL (srcItems [.int (num0 ns 0), .int (num0 ns 1), .int (num0 ns 2)]) (gNm 3) tYesM (eMake 0 m_House_init (aCons (eVar 3) (aNil))) l (srcItems [.int (num0 ns 0), .int (num0 ns 1), .int (num0 ns 2)]).len 0 [] [] = .ok [.ref 0, .ref 3, .ref 6] g1 ∧ J18 0 (Wo0 3 (num0 ns)) g1 := by
  obtain ⟨ys, g1, e1, rfl, a2, a3⟩ := lc_inv (xs := [Val.int (num0 ns 0), .int (num0 ns 1), .int (num0 ns 2)]) (g := gNm 3) (te := eMake 0 m_House_init (aCons (eVar 3) (aNil))) (l := l) (h := [])
    (fun i acc h' => acc = (List.range i).map (fun j => Val.ref (3 * j)) ∧ h'.length = 3 * i ∧ ∀ j, j < i → HE h' (0 + 3 * j) (num0 ns j) 0 []) ⟨rfl, rfl, fun j hj => by omega⟩ (by
    rintro i x acc h' hx ⟨rfl, q2, q3⟩
    have hi : i < 3 := (List.getElem?_eq_some_iff.mp hx).1
    have hx2 : x = .int (num0 ns i) := by
      have : i = 0 ∨ i = 1 ∨ i = 2 := by omega
      rcases this with rfl | rfl | rfl <;> (cases hx; rfl)
    have lt : 3 < l.length := by omega
    refine ⟨l.set 3 (some x), .ref h'.length, newH h' (num0 ns i), ?_, ?_, ?_, ?_, fun j hj => ?_⟩
    · unfold gNm; first | rfl | rw [if_pos lt]
    · have v3 : ∀ h, eVar 3 (l.set 3 (some x)) h = .ok x h := fun h => by
        unfold eVar
        simp [lt]
      have := at_init (h := h') (j := num0 ns i) (l0 := [])
      rw [hx2] at v3 ⊢
      simp [v3, this]
    · rw [List.range_succ, List.map_append, q2]; rfl
    · rw [newH_len, q2]; omega
    · by_cases e : j = i
      · subst e; rw [Nat.zero_add, ← q2]; exact HE.made _
      · exact (q3 j (by omega)).app) (by rw [sizeLine_eq]; simp)
  have a2 : g1.length = 3 * 3 := a2
  refine ⟨g1, e1, Wo0_ok (by omega), ⟨fun i hi => a3 i hi⟩, rfl, by omega⟩
/-- the first act, and the first meeting -/
theorem begin18 (ns : List Int) {g1 : HM} (J0 : J18 0 (Wo0 3 (num0 ns)) g1) {t x : Str} (tis : isText (.str t) = true) (tok : PyData.strOk t = true) (tl : t.length ≤ 1000000) (xis : isName (.str x) = true) (xok : PyData.strOk x = true) (xl : x.length ≤ 1000000) :
    ∃ a0 h1, m_House_make [.ref 0, .str x, .str t] g1 = .ok (eM (num0 ns 0, 1)) h1 ∧ a0.which = (num0 ns 0, 1) ∧ J18 0 ((Wo0 3 (num0 ns)).acted 0 a0 [((num0 ns 0, 1), makeF (num0 ns 0, 1) x t)]) h1 := by
  have i3 : 0 < (Wo0 3 (num0 ns)).m := by show 0 < 3; omega
  obtain ⟨h1, e1, H1, fr⟩ := he_make (J0.H.hh 0 i3) xis tis xl tl (by show (0 : Nat) ≤ 1000; omega)
  have n0 := J0.O.nums 0 i3
  obtain ⟨a0, ha0⟩ : ∃ a : Act, a = ⟨0, (num0 ns 0, 1), (num0 ns 0, 1), .make, t, [], x⟩ := ⟨_, rfl⟩
  have N : NewAct (Wo0 3 (num0 ns)).A a0 := J0.O.new i3 (by rw [ha0]; rfl) (by rw [ha0]; rfl) (by rw [ha0]; rfl) (fun b hb _ => by cases hb) (by
    rw [ha0]
    have n0 : 0 ≤ num0 ns 0 ∧ num0 ns 0 ≤ 5 := n0
    show Rg (num0 ns 0, 1)
    unfold Rg; simp; omega) (by rw [ha0]; exact ⟨xis, xok⟩) (by rw [ha0]; exact tok) (by rw [ha0]; exact fun z => by cases z) (by rw [ha0]; exact fun _ => tis) (.inl (by rw [ha0]))
  have sh := shelf_make J0.O i3 N (by rw [ha0]) (by rw [ha0]) (fun b hb => by cases hb)
  refine ⟨a0, h1, e1, by rw [ha0], J0.O.acted i3 N (by rw [ha0]; rfl) (by rw [ha0]; rfl) ?_, hs_acted J0.H i3 H1 fr, rfl, by rw [fr.len]; exact J0.len⟩
  have e : puM ((Wo0 3 (num0 ns)).E 0) a0.which (makeF a0.mark a0.first a0.what) = [((num0 ns 0, 1), makeF (num0 ns 0, 1) x t)] := by rw [ha0]; rfl
  rw [e] at sh
  exact sh
/-- up to the first telling -/
structure Mid18 (n : Nat → Int) (W6 : Wo) (G : Fl) (c0 c1 : Int) : Prop where
  num : W6.num = n
  ct : W6.ct = up (up (fun _ => 0) 0 c0) 1 c1
  la : W6.A.length ≤ 10
  wh : ∀ a ∈ W6.A, a.which = (n 0, 1)
  S : ∀ i, i < 3 → ∀ x, x ∈ W6.S i ↔ x ∈ W6.A
  E : ∀ i, i < 3 → W6.E i = [((n 0, 1), G)]
  G : Gd 20 G
  ex : ∃ a, a ∈ W6.A
theorem mid18 {ns : List Int} {a0 : Act} {h1 : HM} {q0 q1 : Int} {x t x0 t0 x1 t1 : Str} (KV : List Val) (aw : a0.which = (num0 ns 0, 1)) (J1 : J18 0 ((Wo0 3 (num0 ns)).acted 0 a0 [((num0 ns 0, 1), makeF (num0 ns 0, 1) x t)]) h1) (hq0 : 0 ≤ q0) (hq04 : q0 < 4) (hq1 : 0 ≤ q1) (hq14 : q1 < 4)
    (tis0 : isText (.str t0) = true) (tok0 : PyData.strOk t0 = true) (tl0 : t0.length ≤ 1000000) (xis0 : isName (.str x0) = true) (xok0 : PyData.strOk x0 = true) (xl0 : x0.length ≤ 1000000)
    (tis1 : isText (.str t1) = true) (tok1 : PyData.strOk t1 = true) (tl1 : t1.length ≤ 1000000) (xis1 : isName (.str x1) = true) (xok1 : PyData.strOk x1 = true) (xl1 : x1.length ≤ 1000000) :
    ∃ hm1 r1 h2 h3 h4 hm2 r2 h6 hm3 r3 h7 W6,
      (m_Meeting_init [.ref h1.length, .ref 0, .ref 3] (h1 ++ [.ins 1 []]) = .ok .non hm1 ∧ isIns 1 (.ref h1.length) hm1 = true ∧ m_Meeting_rest [.ref h1.length] hm1 = .ok (.int r1) h2) ∧
      m_law_change [.ref 0, .int (num0 ns 0), .int 1, eM (num0 ns 0, 1), .int q0, .tup [.str t0, .str x0]] h2 = .ok (.tup [.int (chC q0 1), .tup ((chN q0 (num0 ns 0) 1 x0).map eW), .tup ((chT q0 (num0 ns 0) 1 t0).map eW)]) h3 ∧
      m_law_change [.ref 3, .int (num0 ns 1), .int 0, eM (num0 ns 0, 1), .int q1, .tup [.str t1, .str x1]] h3 = .ok (.tup [.int (chC q1 0), .tup ((chN q1 (num0 ns 1) 0 x1).map eW), .tup ((chT q1 (num0 ns 1) 0 t1).map eW)]) h4 ∧
      (m_Meeting_init [.ref (h4 ++ [Ob.lst KV]).length, .ref 3, .ref 0] (h4 ++ [.lst KV] ++ [.ins 1 []]) = .ok .non hm2 ∧ isIns 1 (.ref (h4 ++ [Ob.lst KV]).length) hm2 = true ∧ m_Meeting_rest [.ref (h4 ++ [Ob.lst KV]).length] hm2 = .ok (.int r2) h6) ∧
      (m_Meeting_init [.ref h6.length, .ref 6, .ref 0] (h6 ++ [.ins 1 []]) = .ok .non hm3 ∧ isIns 1 (.ref h6.length) hm3 = true ∧ m_Meeting_rest [.ref h6.length] hm3 = .ok (.int r3) h7) ∧
      h7[h4.length]? = some (.lst KV) ∧ J18 0 W6 h7 ∧ Mid18 (num0 ns) W6 (G18 (num0 ns 0) (num0 ns 1) q0 q1 x t x0 t0 x1 t1) (chC q0 1) (chC q1 0) := by
  obtain ⟨W1, hW1⟩ : ∃ W1, W1 = (Wo0 3 (num0 ns)).acted 0 a0 [((num0 ns 0, 1), makeF (num0 ns 0, 1) x t)] := ⟨_, rfl⟩
  have n1e : W1.num = num0 ns := by rw [hW1]; rfl
  have c1e : W1.ct = up (fun _ => 0) 0 1 := by rw [hW1]; rfl
  have A1 : W1.A = [a0] := by rw [hW1]; rfl
  have S10 : W1.S 0 = [a0] := by rw [hW1]; rfl
  have S11 : W1.S 1 = [] := by rw [hW1]; rfl
  have S12 : W1.S 2 = [] := by rw [hW1]; rfl
  have E10 : W1.E 0 = [((num0 ns 0, 1), makeF (num0 ns 0, 1) x t)] := by rw [hW1]; rfl
  rw [← hW1] at J1
  generalize hw : ((num0 ns 0, 1) : Mk) = w at *
  obtain ⟨F0, hF0⟩ : ∃ F0, F0 = makeF w x t := ⟨_, rfl⟩
  rw [← hF0] at E10
  obtain ⟨H0, hg0, _, _, _, g0⟩ := J1.has (by rw [A1]; simp) (by omega) E10
  obtain ⟨_, L0, _⟩ := (J1.O.sh 0 (by rw [J1.m]; omega)).ok w F0 hg0
  rw [S10] at L0
  obtain ⟨hm1, r1, W2, h2, i1, is1, m1, J2, n2e, c2e, A2, S20, S21, S22, _⟩ := meet18 J1 (by rw [A1]; simp) (by omega : 0 < 3) (by omega : 1 < 3) (by omega)
  rw [A1] at A2
  have S20 : ∀ y, y ∈ W2.S 0 ↔ y ∈ [a0] := fun y => by rw [S20, S10, S11]; simp
  have S21 : ∀ y, y ∈ W2.S 1 ↔ y ∈ [a0] := fun y => by rw [S21, S10, S11]; simp
  have S22 : W2.S 2 = [] := by rw [S22 2 (by omega) (by omega), S12]
  have wh2 : ∀ a ∈ W2.A, a.which = w := fun a ha => by rw [A2] at ha; simp at ha; rw [ha]; exact aw
  have E20 := alike18 J2.O J2.m wh2 (by omega : 0 < 3) S20 ⟨a0, by simp⟩ L0 g0
  have E21 := alike18 J2.O J2.m wh2 (by omega : 1 < 3) S21 ⟨a0, by simp⟩ L0 g0
  have ht0 : F0.texts ≠ [] := by rw [hF0]; simp [makeF]
  obtain ⟨W3, h3, F3, e3, J3, C3⟩ := at_change J2 (by rw [A2]; simp) (by omega) E20 ht0 hq0 hq04 tis0 tok0 tl0 xis0 xok0 xl0
  have c20 : W2.ct 0 = 1 := by rw [c2e, c1e, up_same]
  have n20 : W2.num 0 = num0 ns 0 := by rw [n2e, n1e]
  rw [c20, n20] at e3
  obtain ⟨LA, A3, lA, wA, S3⟩ := C3.A
  have E31 : W3.E 1 = [(w, F0)] := by rw [C3.E, up_ne (by omega)]; exact E21
  have c31 : W3.ct 1 = 0 := by rw [C3.ct, up_ne (by omega), c2e, c1e, up_ne (by omega)]
  have n31 : W3.num 1 = num0 ns 1 := by rw [C3.num, n2e, n1e]
  have l3 : W3.A.length ≤ 3 := by rw [A3, A2]; simp; omega
  obtain ⟨W4, h4, F4, e4, J4, C4⟩ := at_change J3 (by omega) (by omega) E31 ht0 hq1 hq14 tis1 tok1 tl1 xis1 xok1 xl1
  rw [c31, n31] at e4
  obtain ⟨LB, A4, lB, wB, S4⟩ := C4.A
  have l4 : W4.A.length ≤ 5 := by rw [A4]; simp; omega
  have wh4 : ∀ a ∈ W4.A, a.which = w := fun a ha => by
    rw [A4, A3, List.mem_append, List.mem_append] at ha
    rcases ha with (h | h) | h
    · exact wh2 a h
    · exact wA a h
    · exact wB a h
  have J5 := J4.app (g := [.lst KV])
  obtain ⟨hm2, r2, W5, h6, i2, is2, m2, J6, n5e, c5e, A5, S51, S50, S52, fr5⟩ := meet18 J5 (by omega) (by omega : 1 < 3) (by omega : 0 < 3) (by omega)
  obtain ⟨hm3, r3, W6, h7, i3, is3, m3, J7, n6e, c6e, A6, S62, S60, S61, fr6⟩ := meet18 J6 (by rw [A5]; omega) (by omega : 2 < 3) (by omega : 0 < 3) (by omega)
  -- who heard of what
  have S40 : ∀ y, y ∈ W4.S 0 ↔ y ∈ [a0] ∨ y ∈ LA := fun y => by rw [S4, up_ne (by omega), S3, up_same, List.mem_append, S20]
  have S41 : ∀ y, y ∈ W4.S 1 ↔ y ∈ [a0] ∨ y ∈ LB := fun y => by rw [S4, up_same, S3, up_ne (by omega), List.mem_append, S21]
  have S42 : W4.S 2 = [] := by rw [S4, up_ne (by omega), S3, up_ne (by omega), S22]
  have m4 : ∀ y, y ∈ W4.A ↔ (y ∈ [a0] ∨ y ∈ LA) ∨ y ∈ LB := fun y => by rw [A4, A3, A2, List.mem_append, List.mem_append]
  have un : ∀ y, y ∈ W4.A ↔ y ∈ W4.S 0 ∨ y ∈ W4.S 1 := fun y => by
    rw [m4, S40, S41]
    constructor
    · rintro ((h | h) | h)
      · exact .inl (.inl h)
      · exact .inl (.inr h)
      · exact .inr (.inr h)
    · rintro ((h | h) | (h | h))
      · exact .inl (.inl h)
      · exact .inl (.inr h)
      · exact .inl (.inl h)
      · exact .inr h
  have S51' : ∀ y, y ∈ W5.S 1 ↔ y ∈ W4.A := fun y => by rw [S51, un]; exact Or.comm
  have S50' : ∀ y, y ∈ W5.S 0 ↔ y ∈ W4.A := fun y => by rw [S50, un]; exact Or.comm
  have S52' : W5.S 2 = [] := by rw [S52 2 (by omega) (by omega), S42]
  have aA6 : W6.A = W4.A := A6.trans A5
  have S6 : ∀ i, i < 3 → ∀ y, y ∈ W6.S i ↔ y ∈ W6.A := fun i hi y => by
    rw [aA6]
    have : i = 0 ∨ i = 1 ∨ i = 2 := by omega
    rcases this with rfl | rfl | rfl
    · rw [S60, S52', S50']; simp
    · rw [S61 1 (by omega) (by omega), S51']
    · rw [S62, S52', S50']; simp
  -- the file
  have i4' : ∀ k, k < 3 → k < W4.m := fun k hk => by rw [J4.m]; exact hk
  have E40 : W4.E 0 = [(w, F3)] := by rw [C4.E, up_ne (by omega), C3.E, up_same]
  have E41 : W4.E 1 = [(w, F4)] := by rw [C4.E, up_same]
  obtain ⟨_, hg3, id3, _, _, g3⟩ := J4.has (by omega) (by omega) E40
  obtain ⟨_, hg4, id4, _, _, g4⟩ := J4.has (by omega) (by omega) E41
  obtain ⟨ex3, L3, _⟩ := (J4.O.sh 0 (i4' 0 (by omega))).ok w F3 hg3
  obtain ⟨_, L4, _⟩ := (J4.O.sh 1 (i4' 1 (by omega))).ok w F4 hg4
  have LJ := L3.join J4.O.ok (J4.O.cl 0 (i4' 0 (by omega))) (J4.O.cl 1 (i4' 1 (by omega))) L4 g3 g4 un ex3
  have gJ := g3.join g4
  have ne01 : num0 ns 0 ≠ num0 ns 1 := fun e => by
    have := J4.O.inj 0 (i4' 0 (by omega)) 1 (i4' 1 (by omega)) (by rw [C4.num, C3.num, n2e, n1e]; exact e)
    omega
  have c3n : W3.ct 1 = 0 := c31
  have jn : joinF F3 F4 = G18 (num0 ns 0) (num0 ns 1) q0 q1 x t x0 t0 x1 t1 := by
    have nm3 := C3.names
    have nm4 := C4.names
    have tx3 := C3.texts
    have tx4 := C4.texts
    have k3 := C3.known
    have k4 := C4.known
    rw [c20, n20] at nm3 tx3 k3
    rw [c31, n31] at nm4 tx4 k4
    have fn : F0.names = [] := by rw [hF0]; rfl
    have ft : F0.texts = [(w, t)] := by rw [hF0]; rfl
    have fk : F0.known = [w] := by rw [hF0]; rfl
    rw [fn] at nm3 nm4
    rw [ft] at tx3 tx4
    rw [fk] at k3 k4
    subst hw
    exact join18 ne01 hq0 hq1 g3 g4 id3 (by rw [C3.first, hF0]; rfl) nm3 nm4 tx3 tx4 k3 k4
  rw [jn] at LJ gJ
  have wh6 : ∀ a ∈ W6.A, a.which = w := fun a ha => wh4 a (by rw [← aA6]; exact ha)
  have exA : ∃ a, a ∈ W4.A := ⟨a0, by rw [m4]; simp⟩
  -- G of few words
  have la6 : W6.A.length ≤ 10 := by rw [aA6]; omega
  have E6 : ∀ i, i < 3 → W6.E i = [(w, G18 (num0 ns 0) (num0 ns 1) q0 q1 x t x0 t0 x1 t1)] := fun i hi => alike18 J7.O J7.m wh6 hi (fun y => (S6 i hi y).trans (by rw [aA6])) exA LJ gJ
  have g20 := (J7.has (by omega) (by omega : 0 < 3) (E6 0 (by omega))).2.2.2.2.2
  refine ⟨hm1, r1, h2, h3, h4, hm2, r2, h6, hm3, r3, h7, W6, ⟨i1, is1, m1⟩, e3, e4, ⟨i2, is2, m2⟩, ⟨i3, is3, m3⟩, ?_, J7, ?_⟩
  · have l4h := J4.len
    have l5 : h4.length < (h4 ++ [Ob.lst KV]).length := by simp
    have x6 : h6[h4.length]? = some (.lst KV) := by rw [fr5 _ (by omega) l5, last_get]
    rw [fr6 _ (by omega) (List.getElem?_eq_some_iff.mp x6).1, x6]
  · subst hw
    refine ⟨?_, ?_, la6, wh6, S6, E6, g20, by rw [aA6]; exact exA⟩
    · rw [n6e, n5e, C4.num, C3.num, n2e, n1e]
    · rw [c6e, c5e, C4.ct, C3.ct, c2e, c1e, up_same, up_ne (by omega), up_ne (by omega), up_up]
theorem law_ok (ns : List Int) (hns : ns.length ≤ 63) : ∃ h0, m_law_k18 [.scr ns] [] = .ok (.bl true) h0 := by
  have c0 : ∀ h, m_law_cell [.scr ns, .int 0] h = .ok (.int (cell ns 0)) h := fun h => at_cell' (by omega)
  have c5 : ∀ h, m_law_cell [.scr ns, .int 5] h = .ok (.int (cell ns 5)) h := fun h => at_cell' (by omega)
  have c6 : ∀ h, m_law_cell [.scr ns, .int 6] h = .ok (.int (cell ns 6)) h := fun h => at_cell' (by omega)
  have c7 : ∀ h, m_law_cell [.scr ns, .int 7] h = .ok (.int (cell ns 7)) h := fun h => at_cell' (by omega)
  have pm : ∀ h, s_law_perm [.int (cell ns 0), .int 6] h = .ok (.lst ((lperm (cell ns 0) 6).map .int)) h := fun h => perm_ok (by omega)
  have sl : ∀ h, vSl (.lst ((lperm (cell ns 0) 6).map .int)) none (some 3) h = .ok (.lst [.int (num0 ns 0), .int (num0 ns 1), .int (num0 ns 2)]) h := fun h => by
    show Res.ok (Val.lst (cutL _ none (some 3))) h = _
    rw [cutL_to (by omega), ← List.map_take]
    have := take_num (ns := ns) (m := 3) (by omega)
    have e3 : (3 : Int).toNat = 3 := rfl
    rw [e3, this]
    rfl
  have m0 : ∀ h, mkTup [] h = .ok (.tup []) h := fun h => ev_mkTup (by simp)
  have m1 : ∀ (p : Val) h, mkTup [p] h = .ok (.tup [p]) h := fun p h => ev_mkTup (by simp)
  have m2 : ∀ (p q : Val) h, mkTup [p, q] h = .ok (.tup [p, q]) h := fun p q h => ev_mkTup (by simp)
  have m3 : ∀ (p q r : Val) h, mkTup [p, q, r] h = .ok (.tup [p, q, r]) h := fun p q r h => ev_mkTup (by simp)
  have m5 : ∀ (p q r s t : Val) h, mkTup [p, q, r, s, t] h = .ok (.tup [p, q, r, s, t]) h := fun p q r s t h => ev_mkTup (by simp)
  -- the words
  obtain ⟨T, hT⟩ : ∃ T : Nat → Str, T = fun k : Nat => sg (ltext (cell ns (1 + k) - (k : Int) % 2)) := ⟨_, rfl⟩
  obtain ⟨X, hX⟩ : ∃ X : Nat → Str, X = fun k : Nat => sg (lname (cell ns (1 + k))) := ⟨_, rfl⟩
  have tis : ∀ k, isText (.str (T k)) = true := fun k => by rw [hT]; exact isText_ltext _
  have tok : ∀ k, PyData.strOk (T k) = true := fun k => by rw [hT]; exact ltext_ok _
  have tl : ∀ k, (T k).length ≤ 1000000 := fun k => by
    rw [hT]
    have := ltext_len (cell ns (1 + k) - (k : Int) % 2)
    simp; omega
  have xis : ∀ k, isName (.str (X k)) = true := fun k => by rw [hX]; exact isName_lname _
  have xok : ∀ k, PyData.strOk (X k) = true := fun k => by rw [hX]; exact lname_ok _
  have xl : ∀ k, (X k).length ≤ 1000000 := fun k => by
    rw [hX]
    have := (lname_len (cell ns (1 + k))).2
    simp; omega
  have wd : ∀ (l : Loc) (h : HM), l.length = 23 → l[0]? = some (some (.scr ns)) → lcL (srcItems (intsV 0 4)) (gNm 5) tYesM (eDisp mkTup (aCons (eCall m_law_text (aCons (e2 vSub (eCall m_law_cell (aCons (eVar 0) (aCons (e2 vAdd (eC (.int 1)) (eVar 5)) (aNil)))) (e2 vMod (eVar 5) (eC (.int 2)))) (aNil))) (aCons (eCall m_law_name (aCons (eCall m_law_cell (aCons (eVar 0) (aCons (e2 vAdd (eC (.int 1)) (eVar 5)) (aNil)))) (aNil))) (aNil)))) l (srcItems (intsV 0 4)).len 0 h [] = .ok [.tup [.str (T 0), .str (X 0)], .tup [.str (T 1), .str (X 1)], .tup [.str (T 2), .str (X 2)], .tup [.str (T 3), .str (X 3)]] h := fun l h hl h0 => by
    refine lc_range (n := 4) (fun k => .tup [.str (T k), .str (X k)]) (fun k hk => ⟨l.set 5 (some (.int (0 + (k : Nat)))), ?_, ?_⟩) (by rw [sizeLine_eq]; omega)
    · unfold gNm; first | rfl | rw [if_pos (by omega)]
    · have v5 : ∀ h, eVar 5 (l.set 5 (some (.int (0 + (k : Nat))))) h = .ok (.int (k : Nat)) h := fun h => by
        unfold eVar
        simp [hl]
      have v0 : ∀ h, eVar 0 (l.set 5 (some (.int (0 + (k : Nat))))) h = .ok (.scr ns) h := fun h => by
        unfold eVar
        simp [h0]
      have ad : ∀ h, vAdd (.int 1) (.int (k : Nat)) h = .ok (.int ((1 + k : Nat) : Int)) h := fun h => by rw [ev_addI]; congr 2
      have mo : ∀ h, vMod (.int (k : Nat)) (.int 2) h = .ok (.int ((k : Nat) % 2)) h := fun h => ev_modI (by omega)
      have ce : ∀ h, m_law_cell [.scr ns, .int ((1 + k : Nat) : Int)] h = .ok (.int (cell ns (1 + k))) h := fun h => by
        rw [at_cell' (by omega)]; rfl
      have sb : ∀ a b h, vSub (.int a) (.int b) h = .ok (.int (a - b)) h := fun a b h => rfl
      have tx : ∀ c h, m_law_text [.int c] h = .ok (.str (sg (ltext c))) h := fun c h => at_text
      have nx : ∀ c h, m_law_name [.int c] h = .ok (.str (sg (lname c))) h := fun c h => at_name
      simp only [ev_eDisp, ev_aCons, ev_aNil, ev_eCall, ev_e2, v5, v0, ev_C, Res.bind_ok, ad, mo, ce, sb, tx, nx, m2]
      rw [hT, hX]
  have r4 : ∀ h, rng1 [.int 4] h = .ok (srcItems (intsV 0 4)) h := fun h => ev_rng1 (by omega)
  -- the start
  obtain ⟨g1, e1, J0⟩ := start18 (ns := ns) (l := [some (.scr ns), some (.lst [.int (num0 ns 0), .int (num0 ns 1), .int (num0 ns 2)]), none, none, none, none, none, none, none, none, none, none, none, none, none, none, none, none, none, none, none, none, none]) rfl
  have wd := wd [some (.scr ns), some (.lst [.int (num0 ns 0), .int (num0 ns 1), .int (num0 ns 2)]), some (.lst [.ref 0, .ref 3, .ref 6]), none, none, none, none, none, none, none, none, none, none, none, none, none, none, none, none, none, none, none, none] g1 rfl rfl
  obtain ⟨a0, h1, mk1, aw, J1⟩ := begin18 ns J0 (tis 2) (tok 2) (tl 2) (xis 2) (xok 2) (xl 2)
  obtain ⟨q0, hq0⟩ : ∃ q0, q0 = cell ns 5 % 4 := ⟨_, rfl⟩
  obtain ⟨q1, hq1⟩ : ∃ q1, q1 = cell ns 6 % 4 := ⟨_, rfl⟩
  have q00 : 0 ≤ q0 := by rw [hq0]; exact Int.emod_nonneg _ (by omega)
  have q04 : q0 < 4 := by rw [hq0]; exact Int.emod_lt_of_pos _ (by omega)
  have q10 : 0 ≤ q1 := by rw [hq1]; exact Int.emod_nonneg _ (by omega)
  have q14 : q1 < 4 := by rw [hq1]; exact Int.emod_lt_of_pos _ (by omega)
  have cc1 := chC_up (c := 1) q00
  have cc0 := chC_up (c := 0) q10
  obtain ⟨hm1, r1, h2, h3, h4, hm2, r2, h6, hm3, r3, h7, W6, ⟨i1, is1, me1⟩, ch0, ch1, ⟨i2, is2, me2⟩, ⟨i3, is3, me3⟩, kv7, J7, M⟩ := mid18 ((kn18 (num0 ns 0) (num0 ns 1) (chC q0 1) (chC q1 0)).map eM) aw J1 q00 q04 q10 q14 (tis 0) (tok 0) (tl 0) (xis 0) (xok 0) (xl 0) (tis 1) (tok 1) (tl 1) (xis 1) (xok 1) (xl 1)
  have i7 : ∀ k, k < 3 → k < W6.m := fun k hk => by rw [J7.m]; exact hk
  have ne01 : num0 ns 0 ≠ num0 ns 1 := fun e => by
    have := J7.O.inj 0 (i7 0 (by omega)) 1 (i7 1 (by omega)) (by rw [M.num]; exact e)
    omega
  -- the first telling
  obtain ⟨G, hG⟩ : ∃ G, G = G18 (num0 ns 0) (num0 ns 1) q0 q1 (X 2) (T 2) (X 0) (T 0) (X 1) (T 1) := ⟨_, rfl⟩
  obtain ⟨KN, hKN⟩ : ∃ KN, KN = kn18 (num0 ns 0) (num0 ns 1) (chC q0 1) (chC q1 0) := ⟨_, rfl⟩
  have gk : G.known = srt KN := by rw [hG, hKN]; rfl
  have knd : (KN.map (·.1)).Nodup := by rw [hKN]; exact kn18_nd ne01
  have lKN : KN.length ≤ 2 := by rw [hKN]; unfold kn18; split <;> simp
  rw [← hG] at M
  rw [← hKN] at kv7
  have al := fun (l : Loc) (s : Nat) (hg : ∀ x, ∃ l1, gNm 16 x l = some l1 ∧ (∀ h, eVar 16 l1 h = .ok x h) ∧ ∀ h, eVar s l1 h = .ok (eT G) h) => all18 J7 (by have := M.la; omega) M.E (l := l) (s := s) hg
  -- the last act
  obtain ⟨at_, hat, eat⟩ : ∃ a : Nat, a < 3 ∧ mix (cell ns 7) 9811 3 = (a : Nat) := by
    have h0 := mix_nn (c := cell ns 7) (p := 9811) (m := 3) (by decide)
    have h1 := mix_lt (c := cell ns 7) (p := 9811) (m := 3) (by decide)
    exact ⟨(mix (cell ns 7) 9811 3).toNat, by omega, by omega⟩
  obtain ⟨q, hq⟩ : ∃ q, q = mix (cell ns 7) 9803 3 := ⟨_, rfl⟩
  have qn : 0 ≤ q := by rw [hq]; exact mix_nn (by decide)
  have q3 : q < 3 := by rw [hq]; exact mix_lt (by decide)
  have mx1 : ∀ h, m_law_mix [.int (cell ns 7), .int 9811, .int 3] h = .ok (.int (at_ : Nat)) h := fun h => by rw [at_mix (by decide) (by decide), eat]
  have mx2 : ∀ h, m_law_mix [.int (cell ns 7), .int 9803, .int 3] h = .ok (.int q) h := fun h => by rw [at_mix (by decide) (by decide), hq]
  have nAt : ∀ h, vIx (.lst [.int (num0 ns 0), .int (num0 ns 1), .int (num0 ns 2)]) (.int (at_ : Nat)) h = .ok (.int (W6.num at_)) h := fun h => by
    rw [M.num]
    have : at_ = 0 ∨ at_ = 1 ∨ at_ = 2 := by omega
    rcases this with rfl | rfl | rfl <;> rfl
  have cAt : ∀ h, vIx (.tup [.int (chC q0 1), .int (chC q1 0), .int 0]) (.int (at_ : Nat)) h = .ok (.int (W6.ct at_)) h := fun h => by
    rw [M.ct]
    have : at_ = 0 ∨ at_ = 1 ∨ at_ = 2 := by omega
    rcases this with rfl | rfl | rfl <;> rfl
  have hAt : ∀ h, vIx (.lst [.ref 0, .ref 3, .ref 6]) (.int (at_ : Nat)) h = .ok (.ref (0 + 3 * at_)) h := fun h => by
    have : at_ = 0 ∨ at_ = 1 ∨ at_ = 2 := by omega
    rcases this with rfl | rfl | rfl <;> rfl
  -- what is heard of then
  obtain ⟨mk, hmk⟩ : ∃ mk : Mk, mk = (W6.num at_, W6.ct at_ + 1) := ⟨_, rfl⟩
  have lookm : (look KN mk.1).getD 0 ≤ mk.2 := by
    rw [hmk]
    show (look KN (W6.num at_)).getD 0 ≤ W6.ct at_ + 1
    rw [M.num, M.ct, hKN]
    have ne02 : num0 ns 0 ≠ num0 ns 2 := fun e => by
      have := J7.O.inj 0 (i7 0 (by omega)) 2 (i7 2 (by omega)) (by rw [M.num]; exact e)
      omega
    have ne12 : num0 ns 1 ≠ num0 ns 2 := fun e => by
      have := J7.O.inj 1 (i7 1 (by omega)) 2 (i7 2 (by omega)) (by rw [M.num]; exact e)
      omega
    have : at_ = 0 ∨ at_ = 1 ∨ at_ = 2 := by omega
    unfold kn18
    rcases this with rfl | rfl | rfl
    · rw [up_ne (by omega), up_same]
      split <;> simp [look] <;> omega
    · rw [up_same]
      split <;> simp [look, ne01] <;> omega
    · rw [up_ne (by omega), up_ne (by omega)]
      split <;> simp [look, ne02, ne12]
  have putm : putI KN mk = joinK KN [mk] := by
    show putI KN mk = upd1 KN mk
    unfold upd1
    rw [Int.max_eq_left lookm]
  obtain ⟨K, hK⟩ : ∃ K, K = joinK KN [mk] := ⟨_, rfl⟩
  have Knd : (K.map (·.1)).Nodup := by rw [hK]; exact joinK_keys knd
  have lK : K.length ≤ 3 := by
    have := joinK_len (a := KN) (b := [mk])
    rw [hK]; simp at this ⊢; omega
  obtain ⟨kn, hkn⟩ : ∃ kn, kn = srt K := ⟨_, rfl⟩
  have mkp : ∀ m ∈ [mk], 0 < m.2 := fun m hm => by
    simp at hm
    rw [hm, hmk]
    have := (J7.O.ct0 at_ (i7 at_ hat)).1
    show 0 < W6.ct at_ + 1
    omega
  have hkn2 : kn = srt (joinK G.known [(W6.num at_, W6.ct at_ + 1)]) := by
    rw [hkn, hK, ← hmk, gk]
    have nd2 := keys_srt knd
    refine known_eq (keys_srt (joinK_keys knd)) (keys_srt (joinK_keys nd2)) (srt_srt _) (srt_srt _) fun p => ?_
    rw [within_joinK knd mkp, within_joinK nd2 mkp, within_srt]
  obtain ⟨NV, hNV⟩ : ∃ v, v = Val.lst [.int (num0 ns 0), .int (num0 ns 1), .int (num0 ns 2)] := ⟨_, rfl⟩
  obtain ⟨HV, hHV⟩ : ∃ v, v = Val.lst [.ref 0, .ref 3, .ref 6] := ⟨_, rfl⟩
  obtain ⟨WV, hWV⟩ : ∃ v, v = Val.lst [.tup [.str (T 0), .str (X 0)], .tup [.str (T 1), .str (X 1)], .tup [.str (T 2), .str (X 2)], .tup [.str (T 3), .str (X 3)]] := ⟨_, rfl⟩
  obtain ⟨wv, hwv⟩ : ∃ v, v = eM (num0 ns 0, 1) := ⟨_, rfl⟩
  have sNV : ∀ h, srcOf NV h = .ok (srcItems [.int (num0 ns 0), .int (num0 ns 1), .int (num0 ns 2)]) h := fun h => by rw [hNV]; rfl
  have sHV : ∀ h, srcOf HV h = .ok (srcItems [.ref (0 + 3 * 0), .ref (0 + 3 * 1), .ref (0 + 3 * 2)]) h := fun h => by rw [hHV]; rfl
  have n0 : ∀ h, vIx NV (.int 0) h = .ok (.int (num0 ns 0)) h := fun h => by rw [hNV]; rfl
  have n1 : ∀ h, vIx NV (.int 1) h = .ok (.int (num0 ns 1)) h := fun h => by rw [hNV]; rfl
  have v0 : ∀ h, vIx HV (.int 0) h = .ok (.ref 0) h := fun h => by rw [hHV]; rfl
  have v1 : ∀ h, vIx HV (.int 1) h = .ok (.ref 3) h := fun h => by rw [hHV]; rfl
  have v2 : ∀ h, vIx HV (.int 2) h = .ok (.ref 6) h := fun h => by rw [hHV]; rfl
  have w0 : ∀ h, vIx WV (.int 0) h = .ok (.tup [.str (T 0), .str (X 0)]) h := fun h => by rw [hWV]; rfl
  have w1 : ∀ h, vIx WV (.int 1) h = .ok (.tup [.str (T 1), .str (X 1)]) h := fun h => by rw [hWV]; rfl
  have w2 : ∀ h, vIx WV (.int 2) h = .ok (.tup [.str (T 2), .str (X 2)]) h := fun h => by rw [hWV]; rfl
  have w3 : ∀ h, vIx WV (.int 3) h = .ok (.tup [.str (T 3), .str (X 3)]) h := fun h => by rw [hWV]; rfl
  have p0 : ∀ a b h, vIx (.tup [a, b]) (.int 0) h = .ok a h := fun a b h => rfl
  have p1 : ∀ a b h, vIx (.tup [a, b]) (.int 1) h = .ok b h := fun a b h => rfl
  have mW : ∀ h, mkTup [.int (num0 ns 0), .int 1] h = .ok wv h := fun h => by rw [m2, hwv]; rfl
  rw [← hKN] at i2 is2 me2
  rw [← hNV] at sl wd nAt e1
  rw [← hHV] at wd hAt
  rw [← hwv] at mk1 ch0 ch1
  have t0 : (sAsg (eSl (eCall s_law_perm (aCons (eCall m_law_cell (aCons (eVar 0) (aCons (eC (.int 0)) (aNil)))) (aCons (eC (.int 6)) (aNil)))) (oNone) (oSome (eC (.int 3)))) (gNm 1)) [some (.scr ns), none, none, none, none, none, none, none, none, none, none, none, none, none, none, none, none, none, none, none, none, none, none] ([]) = .nx [some (.scr ns), some NV, none, none, none, none, none, none, none, none, none, none, none, none, none, none, none, none, none, none, none, none, none] ([]) := by
    simp only [ev_sAsg, ev_sDrop, ev_eMeth, ev_eMake, ev_eCall, ev_aCons, ev_aNil, ev_VarS, ev_Var0, ev_C, ev_e2, ev_eDisp, ev_eBi, ev_eLc, ev_iVal, ev_iArgs, wipeL, List.set, List.foldl, ev_frozen, Res.bind_ok, Res.thn_ok, ev_gNmS, ev_gNm0, Option.map_some, if_true, c0, pm, sl, ev_eSl, ev_oNone, ev_oSome]
  have t1 : (sAsg (eLc (iVal (eVar 1)) (gNm 3) (tYesM) (eMake 0 m_House_init (aCons (eVar 3) (aNil))) [3] frozen) (gNm 2)) [some (.scr ns), some NV, none, none, none, none, none, none, none, none, none, none, none, none, none, none, none, none, none, none, none, none, none] ([]) = .nx [some (.scr ns), some NV, some HV, none, none, none, none, none, none, none, none, none, none, none, none, none, none, none, none, none, none, none, none] (g1) := by
    simp only [ev_sAsg, ev_sDrop, ev_eMeth, ev_eMake, ev_eCall, ev_aCons, ev_aNil, ev_VarS, ev_Var0, ev_C, ev_e2, ev_eDisp, ev_eBi, ev_eLc, ev_iVal, ev_iArgs, wipeL, List.set, List.foldl, ev_frozen, Res.bind_ok, Res.thn_ok, ev_gNmS, ev_gNm0, Option.map_some, if_true, sNV, e1, hHV]
  have t2 : (sAsg (eLc (iArgs rng1 (aCons (eC (.int 4)) (aNil))) (gNm 5) (tYesM) (eDisp mkTup (aCons (eCall m_law_text (aCons (e2 vSub (eCall m_law_cell (aCons (eVar 0) (aCons (e2 vAdd (eC (.int 1)) (eVar 5)) (aNil)))) (e2 vMod (eVar 5) (eC (.int 2)))) (aNil))) (aCons (eCall m_law_name (aCons (eCall m_law_cell (aCons (eVar 0) (aCons (e2 vAdd (eC (.int 1)) (eVar 5)) (aNil)))) (aNil))) (aNil)))) [5] frozen) (gNm 4)) [some (.scr ns), some NV, some HV, none, none, none, none, none, none, none, none, none, none, none, none, none, none, none, none, none, none, none, none] (g1) = .nx [some (.scr ns), some NV, some HV, none, some WV, none, none, none, none, none, none, none, none, none, none, none, none, none, none, none, none, none, none] (g1) := by
    simp only [ev_sAsg, ev_sDrop, ev_eMeth, ev_eMake, ev_eCall, ev_aCons, ev_aNil, ev_VarS, ev_Var0, ev_C, ev_e2, ev_eDisp, ev_eBi, ev_eLc, ev_iVal, ev_iArgs, wipeL, List.set, List.foldl, ev_frozen, Res.bind_ok, Res.thn_ok, ev_gNmS, ev_gNm0, Option.map_some, if_true, r4, wd, hWV]
  have t3 : (sAsg (eDisp mkTup (aCons (e2 vIx (eVar 1) (eC (.int 0))) (aCons (eC (.int 1)) (aNil)))) (gNm 6)) [some (.scr ns), some NV, some HV, none, some WV, none, none, none, none, none, none, none, none, none, none, none, none, none, none, none, none, none, none] (g1) = .nx [some (.scr ns), some NV, some HV, none, some WV, none, some wv, none, none, none, none, none, none, none, none, none, none, none, none, none, none, none, none] (g1) := by
    simp only [ev_sAsg, ev_sDrop, ev_eMeth, ev_eMake, ev_eCall, ev_aCons, ev_aNil, ev_VarS, ev_Var0, ev_C, ev_e2, ev_eDisp, ev_eBi, ev_eLc, ev_iVal, ev_iArgs, wipeL, List.set, List.foldl, ev_frozen, Res.bind_ok, Res.thn_ok, ev_gNmS, ev_gNm0, Option.map_some, if_true, n0, mW]
  have is0 : isIns 0 (.ref 0) g1 = true := (J0.H.hh 0 (by show 0 < 3; omega)).isI
  have smk : ∀ h, s_law_same [wv, wv] h = .ok (.bl true) h := fun h => by
    have p : pl 30 (eM (num0 ns 0, 1)) = true := by simp [pl, eM]
    rw [hwv, same_ok p p]
    simp [eM, sameBs, sameB, tupL]
  have t4 : (sIf (tNotM (tTru (eCall s_law_same (aCons (eMeth 0 m_House_make (e2 vIx (eVar 2) (eC (.int 0))) (aCons (e2 vIx (e2 vIx (eVar 4) (eC (.int 2))) (eC (.int 1))) (aCons (e2 vIx (e2 vIx (eVar 4) (eC (.int 2))) (eC (.int 0))) (aNil)))) (aCons (eVar 6) (aNil)))))) (sRet (eC (.bl false))) (sNil)) [some (.scr ns), some NV, some HV, none, some WV, none, some wv, none, none, none, none, none, none, none, none, none, none, none, none, none, none, none, none] (g1) = .nx [some (.scr ns), some NV, some HV, none, some WV, none, some wv, none, none, none, none, none, none, none, none, none, none, none, none, none, none, none, none] (h1) := by
    simp only [ev_sIf, ev_tNot, ev_tTru, ev_truB, ev_sNil, Bool.not_true, Bool.false_eq_true, if_false, ev_sAsg, ev_sDrop, ev_eMeth, ev_eMake, ev_eCall, ev_aCons, ev_aNil, ev_VarS, ev_Var0, ev_C, ev_e2, ev_eDisp, ev_eBi, ev_eLc, ev_iVal, ev_iArgs, wipeL, List.set, List.foldl, ev_frozen, Res.bind_ok, Res.thn_ok, ev_gNmS, ev_gNm0, Option.map_some, if_true, v0, w2, p1, p0, is0, mk1, smk]
  have t5 : (sDrop (eMeth 1 m_Meeting_rest (eMake 1 m_Meeting_init (aCons (e2 vIx (eVar 2) (eC (.int 0))) (aCons (e2 vIx (eVar 2) (eC (.int 1))) (aNil)))) aNil)) [some (.scr ns), some NV, some HV, none, some WV, none, some wv, none, none, none, none, none, none, none, none, none, none, none, none, none, none, none, none] (h1) = .nx [some (.scr ns), some NV, some HV, none, some WV, none, some wv, none, none, none, none, none, none, none, none, none, none, none, none, none, none, none, none] (h2) := by
    simp only [ev_sAsg, ev_sDrop, ev_eMeth, ev_eMake, ev_eCall, ev_aCons, ev_aNil, ev_VarS, ev_Var0, ev_C, ev_e2, ev_eDisp, ev_eBi, ev_eLc, ev_iVal, ev_iArgs, wipeL, List.set, List.foldl, ev_frozen, Res.bind_ok, Res.thn_ok, ev_gNmS, ev_gNm0, Option.map_some, if_true, v0, v1, i1, is1, me1]
  have md4 : ∀ (a : Int) h, vMod (.int a) (.int 4) h = .ok (.int (a % 4)) h := fun a h => ev_modI (by omega)
  have t6 : (sAsg (eDisp mkTup (aCons (e2 vMod (eCall m_law_cell (aCons (eVar 0) (aCons (eC (.int 5)) (aNil)))) (eC (.int 4))) (aCons (e2 vMod (eCall m_law_cell (aCons (eVar 0) (aCons (eC (.int 6)) (aNil)))) (eC (.int 4))) (aNil)))) (gNm 7)) [some (.scr ns), some NV, some HV, none, some WV, none, some wv, none, none, none, none, none, none, none, none, none, none, none, none, none, none, none, none] (h2) = .nx [some (.scr ns), some NV, some HV, none, some WV, none, some wv, some (.tup [.int q0, .int q1]), none, none, none, none, none, none, none, none, none, none, none, none, none, none, none] (h2) := by
    simp only [ev_sAsg, ev_sDrop, ev_eMeth, ev_eMake, ev_eCall, ev_aCons, ev_aNil, ev_VarS, ev_Var0, ev_C, ev_e2, ev_eDisp, ev_eBi, ev_eLc, ev_iVal, ev_iArgs, wipeL, List.set, List.foldl, ev_frozen, Res.bind_ok, Res.thn_ok, ev_gNmS, ev_gNm0, Option.map_some, if_true, c5, c6, md4, ← hq0, ← hq1, m2]
  obtain ⟨A0, hA0⟩ : ∃ v, v = chN q0 (num0 ns 0) 1 (X 0) := ⟨_, rfl⟩
  obtain ⟨B0, hB0⟩ : ∃ v, v = chT q0 (num0 ns 0) 1 (T 0) := ⟨_, rfl⟩
  obtain ⟨A1, hA1⟩ : ∃ v, v = chN q1 (num0 ns 1) 0 (X 1) := ⟨_, rfl⟩
  obtain ⟨B1, hB1⟩ : ∃ v, v = chT q1 (num0 ns 1) 0 (T 1) := ⟨_, rfl⟩
  have lA0 : A0.length ≤ 1 := by rw [hA0]; exact chN_len
  have lA1 : A1.length ≤ 1 := by rw [hA1]; exact chN_len
  have lB0 : B0.length ≤ 1 := by rw [hB0]; exact chT_len
  have lB1 : B1.length ≤ 1 := by rw [hB1]; exact chT_len
  obtain ⟨c0v, hc0v⟩ : ∃ v, v = chC q0 1 := ⟨_, rfl⟩
  obtain ⟨c1v, hc1v⟩ : ∃ v, v = chC q1 0 := ⟨_, rfl⟩
  rw [← hA0, ← hB0, ← hc0v] at ch0
  rw [← hA1, ← hB1, ← hc1v] at ch1
  rw [← hc0v, ← hc1v] at hKN cAt
  have gn : G.names = srt (A0 ++ A1) := by rw [hG, hA0, hA1]; rfl
  have gt : G.texts = if B0 ++ B1 = [] then [((num0 ns 0, 1), T 2)] else srt (B0 ++ B1) := by rw [hG, hB0, hB1]; rfl
  have gf : G.first = X 2 := by rw [hG]; rfl
  have gi : G.id = (num0 ns 0, 1) := by rw [hG]; rfl
  have un7 : gTp 3 (gsCons (gNm 8) (gsCons (gNm 9) (gsCons (gNm 10) (gsNil)))) (.tup [.int c0v, .tup (A0.map eW), .tup (B0.map eW)]) [some (.scr ns), some NV, some HV, none, some WV, none, some wv, some (.tup [.int q0, .int q1]), none, none, none, none, none, none, none, none, none, none, none, none, none, none, none] = some [some (.scr ns), some NV, some HV, none, some WV, none, some wv, some (.tup [.int q0, .int q1]), some (.int c0v), some (.tup (A0.map eW)), some (.tup (B0.map eW)), none, none, none, none, none, none, none, none, none, none, none, none] := rfl
  have t7 : (sAsg (eCall m_law_change (aCons (e2 vIx (eVar 2) (eC (.int 0))) (aCons (e2 vIx (eVar 1) (eC (.int 0))) (aCons (eC (.int 1)) (aCons (eVar 6) (aCons (e2 vIx (eVar 7) (eC (.int 0))) (aCons (e2 vIx (eVar 4) (eC (.int 0))) (aNil)))))))) (gTp 3 (gsCons (gNm 8) (gsCons (gNm 9) (gsCons (gNm 10) (gsNil)))))) [some (.scr ns), some NV, some HV, none, some WV, none, some wv, some (.tup [.int q0, .int q1]), none, none, none, none, none, none, none, none, none, none, none, none, none, none, none] (h2) = .nx [some (.scr ns), some NV, some HV, none, some WV, none, some wv, some (.tup [.int q0, .int q1]), some (.int c0v), some (.tup (A0.map eW)), some (.tup (B0.map eW)), none, none, none, none, none, none, none, none, none, none, none, none] (h3) := by
    simp only [ev_sAsg, ev_sDrop, ev_eMeth, ev_eMake, ev_eCall, ev_aCons, ev_aNil, ev_VarS, ev_Var0, ev_C, ev_e2, ev_eDisp, ev_eBi, ev_eLc, ev_iVal, ev_iArgs, wipeL, List.set, List.foldl, ev_frozen, Res.bind_ok, Res.thn_ok, ev_gNmS, ev_gNm0, Option.map_some, if_true, v0, n0, p0, p1, w0, ch0, un7]
  have un8 : gTp 3 (gsCons (gNm 11) (gsCons (gNm 12) (gsCons (gNm 13) (gsNil)))) (.tup [.int c1v, .tup (A1.map eW), .tup (B1.map eW)]) [some (.scr ns), some NV, some HV, none, some WV, none, some wv, some (.tup [.int q0, .int q1]), some (.int c0v), some (.tup (A0.map eW)), some (.tup (B0.map eW)), none, none, none, none, none, none, none, none, none, none, none, none] = some [some (.scr ns), some NV, some HV, none, some WV, none, some wv, some (.tup [.int q0, .int q1]), some (.int c0v), some (.tup (A0.map eW)), some (.tup (B0.map eW)), some (.int c1v), some (.tup (A1.map eW)), some (.tup (B1.map eW)), none, none, none, none, none, none, none, none, none] := rfl
  have t8 : (sAsg (eCall m_law_change (aCons (e2 vIx (eVar 2) (eC (.int 1))) (aCons (e2 vIx (eVar 1) (eC (.int 1))) (aCons (eC (.int 0)) (aCons (eVar 6) (aCons (e2 vIx (eVar 7) (eC (.int 1))) (aCons (e2 vIx (eVar 4) (eC (.int 1))) (aNil)))))))) (gTp 3 (gsCons (gNm 11) (gsCons (gNm 12) (gsCons (gNm 13) (gsNil)))))) [some (.scr ns), some NV, some HV, none, some WV, none, some wv, some (.tup [.int q0, .int q1]), some (.int c0v), some (.tup (A0.map eW)), some (.tup (B0.map eW)), none, none, none, none, none, none, none, none, none, none, none, none] (h3) = .nx [some (.scr ns), some NV, some HV, none, some WV, none, some wv, some (.tup [.int q0, .int q1]), some (.int c0v), some (.tup (A0.map eW)), some (.tup (B0.map eW)), some (.int c1v), some (.tup (A1.map eW)), some (.tup (B1.map eW)), none, none, none, none, none, none, none, none, none] (h4) := by
    simp only [ev_sAsg, ev_sDrop, ev_eMeth, ev_eMake, ev_eCall, ev_aCons, ev_aNil, ev_VarS, ev_Var0, ev_C, ev_e2, ev_eDisp, ev_eBi, ev_eLc, ev_iVal, ev_iArgs, wipeL, List.set, List.foldl, ev_frozen, Res.bind_ok, Res.thn_ok, ev_gNmS, ev_gNm0, Option.map_some, if_true, v1, n1, p0, p1, w1, ch1, un8]
  have addW : ∀ (P Q : List Wd) h, (P ++ Q).length ≤ 1000000 → vAdd (.tup (P.map eW)) (.tup (Q.map eW)) h = .ok (.tup ((P ++ Q).map eW)) h := fun P Q h hl => by rw [List.map_append]; exact addT (by simp at hl ⊢; omega)
  have soT : ∀ (P : List Wd) h, P.length ≤ 1000000 → bSortedT [.tup (P.map eW)] h = .ok (.lst ((srt P).map eW)) h := fun P h hl => sorted_tup (α := Wd) (sortable_pair P) hl
  have bt : ∀ xs h, bTuple [.lst xs] h = .ok (.tup xs) h := fun xs h => rfl
  have lB : (B0 ++ B1).length ≤ 1000000 := by simp; omega
  have lA : (A0 ++ A1).length ≤ 1000000 := by simp; omega
  have t9 : (sAsg (eBi bTuple (aCons (eBi bSortedT (aCons (e2 vAdd (eVar 10) (eVar 13)) (aNil))) (aNil))) (gNm 10)) [some (.scr ns), some NV, some HV, none, some WV, none, some wv, some (.tup [.int q0, .int q1]), some (.int c0v), some (.tup (A0.map eW)), some (.tup (B0.map eW)), some (.int c1v), some (.tup (A1.map eW)), some (.tup (B1.map eW)), none, none, none, none, none, none, none, none, none] (h4) = .nx [some (.scr ns), some NV, some HV, none, some WV, none, some wv, some (.tup [.int q0, .int q1]), some (.int c0v), some (.tup (A0.map eW)), some (.tup ((srt (B0 ++ B1)).map eW)), some (.int c1v), some (.tup (A1.map eW)), some (.tup (B1.map eW)), none, none, none, none, none, none, none, none, none] (h4) := by
    simp only [ev_sAsg, ev_sDrop, ev_eMeth, ev_eMake, ev_eCall, ev_aCons, ev_aNil, ev_VarS, ev_Var0, ev_C, ev_e2, ev_eDisp, ev_eBi, ev_eLc, ev_iVal, ev_iArgs, wipeL, List.set, List.foldl, ev_frozen, Res.bind_ok, Res.thn_ok, ev_gNmS, ev_gNm0, Option.map_some, if_true, addW _ _ _ lB, soT _ _ lB, bt]
  have t10 : (sIf (tNotM (tTru (eVar 10))) (sAsg (eDisp mkTup (aCons (eDisp mkTup (aCons (eVar 6) (aCons (e2 vIx (e2 vIx (eVar 4) (eC (.int 2))) (eC (.int 0))) (aNil)))) (aNil))) (gNm 10)) (sNil)) [some (.scr ns), some NV, some HV, none, some WV, none, some wv, some (.tup [.int q0, .int q1]), some (.int c0v), some (.tup (A0.map eW)), some (.tup ((srt (B0 ++ B1)).map eW)), some (.int c1v), some (.tup (A1.map eW)), some (.tup (B1.map eW)), none, none, none, none, none, none, none, none, none] (h4) = .nx [some (.scr ns), some NV, some HV, none, some WV, none, some wv, some (.tup [.int q0, .int q1]), some (.int c0v), some (.tup (A0.map eW)), some (.tup (G.texts.map eW)), some (.int c1v), some (.tup (A1.map eW)), some (.tup (B1.map eW)), none, none, none, none, none, none, none, none, none] (h4) := by
    rw [gt]
    by_cases e : B0 ++ B1 = []
    · rw [if_pos e, e]
      have e0 : (srt ([] : List Wd)).map eW = [] := by rw [srt_none]; rfl
      have e1 : ([((num0 ns 0, 1), T 2)] : List Wd).map eW = [.tup [wv, .str (T 2)]] := by rw [hwv]; rfl
      rw [e0, e1]
      simp only [ev_sIf, ev_tNot, ev_tTru, ev_truT, List.isEmpty_nil, Bool.not_true, Bool.not_false, Bool.false_eq_true, if_false, ev_sAsg, ev_sDrop, ev_eMeth, ev_eMake, ev_eCall, ev_aCons, ev_aNil, ev_VarS, ev_Var0, ev_C, ev_e2, ev_eDisp, ev_eBi, ev_eLc, ev_iVal, ev_iArgs, wipeL, List.set, List.foldl, ev_frozen, Res.bind_ok, Res.thn_ok, ev_gNmS, ev_gNm0, Option.map_some, if_true, w2, p0, m2, m1]
    · rw [if_neg e]
      have e0 : ((srt (B0 ++ B1)).map eW).isEmpty = false := by
        cases he : (srt (B0 ++ B1)) with
        | nil => exact absurd (List.length_eq_zero_iff.mp (by rw [← srt_len, he]; rfl)) e
        | cons a t => rfl
      simp only [ev_sIf, ev_tNot, ev_tTru, ev_truT, e0, Bool.not_true, Bool.not_false, Bool.false_eq_true, if_false, ev_sAsg, ev_sDrop, ev_eMeth, ev_eMake, ev_eCall, ev_aCons, ev_aNil, ev_VarS, ev_Var0, ev_C, ev_e2, ev_eDisp, ev_eBi, ev_eLc, ev_iVal, ev_iArgs, wipeL, List.set, List.foldl, ev_frozen, Res.bind_ok, Res.thn_ok, ev_gNmS, ev_gNm0, Option.map_some, if_true, ev_sNil]
  have fr1 : ∀ (x : Val) h, mkRef [x] h = .ok (.ref h.length) (h ++ [.lst [x]]) := fun x h => ev_mkRef (by simp)
  have t11 : (sAsg (eDisp mkRef (aCons (eDisp mkTup (aCons (e2 vIx (eVar 1) (eC (.int 0))) (aCons (eVar 8) (aNil)))) (aNil))) (gNm 14)) [some (.scr ns), some NV, some HV, none, some WV, none, some wv, some (.tup [.int q0, .int q1]), some (.int c0v), some (.tup (A0.map eW)), some (.tup (G.texts.map eW)), some (.int c1v), some (.tup (A1.map eW)), some (.tup (B1.map eW)), none, none, none, none, none, none, none, none, none] (h4) = .nx [some (.scr ns), some NV, some HV, none, some WV, none, some wv, some (.tup [.int q0, .int q1]), some (.int c0v), some (.tup (A0.map eW)), some (.tup (G.texts.map eW)), some (.int c1v), some (.tup (A1.map eW)), some (.tup (B1.map eW)), some (.ref h4.length), none, none, none, none, none, none, none, none] (h4 ++ [.lst [.tup [.int (num0 ns 0), .int c0v]]]) := by
    simp only [ev_sAsg, ev_sDrop, ev_eMeth, ev_eMake, ev_eCall, ev_aCons, ev_aNil, ev_VarS, ev_Var0, ev_C, ev_e2, ev_eDisp, ev_eBi, ev_eLc, ev_iVal, ev_iArgs, wipeL, List.set, List.foldl, ev_frozen, Res.bind_ok, Res.thn_ok, ev_gNmS, ev_gNm0, Option.map_some, if_true, n0, m2, fr1]
  have t12 : (sIf (tOf (e2 vGt (eVar 11) (eC (.int 0)))) (sDrop (eBm .list mAppend (eVar 14) (aCons (eDisp mkTup (aCons (e2 vIx (eVar 1) (eC (.int 1))) (aCons (eVar 11) (aNil)))) (aNil)))) (sNil)) [some (.scr ns), some NV, some HV, none, some WV, none, some wv, some (.tup [.int q0, .int q1]), some (.int c0v), some (.tup (A0.map eW)), some (.tup (G.texts.map eW)), some (.int c1v), some (.tup (A1.map eW)), some (.tup (B1.map eW)), some (.ref h4.length), none, none, none, none, none, none, none, none] (h4 ++ [.lst [.tup [.int (num0 ns 0), .int c0v]]]) = .nx [some (.scr ns), some NV, some HV, none, some WV, none, some wv, some (.tup [.int q0, .int q1]), some (.int c0v), some (.tup (A0.map eW)), some (.tup (G.texts.map eW)), some (.int c1v), some (.tup (A1.map eW)), some (.tup (B1.map eW)), some (.ref h4.length), none, none, none, none, none, none, none, none] (h4 ++ [.lst (KN.map eM)]) := by
    have kd : ∀ xs, isKd .list (.ref h4.length) (h4 ++ [.lst xs]) = true := fun xs => by simp [isKd]
    have ap : ∀ x v, mAppend (.ref h4.length) [v] (h4 ++ [.lst [x]]) = .ok .non (h4 ++ [.lst ([x] ++ [v])]) := fun x v => by simp [mAppend, sizeLine_eq]
    rw [hKN]
    unfold kn18
    by_cases e : 0 < c1v
    · rw [if_pos e]
      have dd : decide (0 < c1v) = true := decide_eq_true e
      simp only [ev_sIf, ev_tOf, ev_gtI, ev_toB, dd, ev_sAsg, ev_sDrop, ev_eMeth, ev_eMake, ev_eCall, ev_aCons, ev_aNil, ev_VarS, ev_Var0, ev_C, ev_e2, ev_eDisp, ev_eBi, ev_eLc, ev_iVal, ev_iArgs, wipeL, List.set, List.foldl, ev_frozen, Res.bind_ok, Res.thn_ok, ev_gNmS, ev_gNm0, Option.map_some, if_true, ev_eBm, kd, ap, n1, m2]
      rfl
    · rw [if_neg e]
      have dd : decide (0 < c1v) = false := decide_eq_false e
      simp only [ev_sIf, ev_tOf, ev_gtI, ev_toB, dd, ev_sAsg, ev_sDrop, ev_eMeth, ev_eMake, ev_eCall, ev_aCons, ev_aNil, ev_VarS, ev_Var0, ev_C, ev_e2, ev_eDisp, ev_eBi, ev_eLc, ev_iVal, ev_iArgs, wipeL, List.set, List.foldl, ev_frozen, Res.bind_ok, Res.thn_ok, ev_gNmS, ev_gNm0, Option.map_some, if_true, ev_sNil, Bool.false_eq_true, if_false]
      rfl
  have so5 : bSorted [.ref h4.length] (h4 ++ [.lst (KN.map eM)]) = .ok (.lst ((srt KN).map eM)) (h4 ++ [.lst (KN.map eM)]) := sorted_ref (α := Mk) last_get (sortable_pair KN) (by omega)
  have m5f : ∀ h, mkTup [wv, .str (X 2), .tup ((srt KN).map eM), .tup ((srt (A0 ++ A1)).map eW), .tup (G.texts.map eW)] h = .ok (eT G) h := fun h => by
    rw [m5, ← gn, ← gk, ← gf, hwv, ← gi]
    rfl
  have t13 : (sAsg (eDisp mkTup (aCons (eVar 6) (aCons (e2 vIx (e2 vIx (eVar 4) (eC (.int 2))) (eC (.int 1))) (aCons (eBi bTuple (aCons (eBi bSorted (aCons (eVar 14) (aNil))) (aNil))) (aCons (eBi bTuple (aCons (eBi bSortedT (aCons (e2 vAdd (eVar 9) (eVar 12)) (aNil))) (aNil))) (aCons (eVar 10) (aNil))))))) (gNm 15)) [some (.scr ns), some NV, some HV, none, some WV, none, some wv, some (.tup [.int q0, .int q1]), some (.int c0v), some (.tup (A0.map eW)), some (.tup (G.texts.map eW)), some (.int c1v), some (.tup (A1.map eW)), some (.tup (B1.map eW)), some (.ref h4.length), none, none, none, none, none, none, none, none] (h4 ++ [.lst (KN.map eM)]) = .nx [some (.scr ns), some NV, some HV, none, some WV, none, some wv, some (.tup [.int q0, .int q1]), some (.int c0v), some (.tup (A0.map eW)), some (.tup (G.texts.map eW)), some (.int c1v), some (.tup (A1.map eW)), some (.tup (B1.map eW)), some (.ref h4.length), some (eT G), none, none, none, none, none, none, none] (h4 ++ [.lst (KN.map eM)]) := by
    simp only [ev_sAsg, ev_sDrop, ev_eMeth, ev_eMake, ev_eCall, ev_aCons, ev_aNil, ev_VarS, ev_Var0, ev_C, ev_e2, ev_eDisp, ev_eBi, ev_eLc, ev_iVal, ev_iArgs, wipeL, List.set, List.foldl, ev_frozen, Res.bind_ok, Res.thn_ok, ev_gNmS, ev_gNm0, Option.map_some, if_true, w2, p1, so5, bt, addW _ _ _ lA, soT _ _ lA, m5f]
  obtain ⟨h5, hh5⟩ : ∃ x, x = h4 ++ [Ob.lst (KN.map eM)] := ⟨_, rfl⟩
  rw [← hh5] at i2 is2 me2 t12 t13
  have t14 : (sDrop (eMeth 1 m_Meeting_rest (eMake 1 m_Meeting_init (aCons (e2 vIx (eVar 2) (eC (.int 1))) (aCons (e2 vIx (eVar 2) (eC (.int 0))) (aNil)))) aNil)) [some (.scr ns), some NV, some HV, none, some WV, none, some wv, some (.tup [.int q0, .int q1]), some (.int c0v), some (.tup (A0.map eW)), some (.tup (G.texts.map eW)), some (.int c1v), some (.tup (A1.map eW)), some (.tup (B1.map eW)), some (.ref h4.length), some (eT G), none, none, none, none, none, none, none] (h5) = .nx [some (.scr ns), some NV, some HV, none, some WV, none, some wv, some (.tup [.int q0, .int q1]), some (.int c0v), some (.tup (A0.map eW)), some (.tup (G.texts.map eW)), some (.int c1v), some (.tup (A1.map eW)), some (.tup (B1.map eW)), some (.ref h4.length), some (eT G), none, none, none, none, none, none, none] (h6) := by
    simp only [ev_sAsg, ev_sDrop, ev_eMeth, ev_eMake, ev_eCall, ev_aCons, ev_aNil, ev_VarS, ev_Var0, ev_C, ev_e2, ev_eDisp, ev_eBi, ev_eLc, ev_iVal, ev_iArgs, wipeL, List.set, List.foldl, ev_frozen, Res.bind_ok, Res.thn_ok, ev_gNmS, ev_gNm0, Option.map_some, if_true, v1, v0, i2, is2, me2]
  have t15 : (sDrop (eMeth 1 m_Meeting_rest (eMake 1 m_Meeting_init (aCons (e2 vIx (eVar 2) (eC (.int 2))) (aCons (e2 vIx (eVar 2) (eC (.int 0))) (aNil)))) aNil)) [some (.scr ns), some NV, some HV, none, some WV, none, some wv, some (.tup [.int q0, .int q1]), some (.int c0v), some (.tup (A0.map eW)), some (.tup (G.texts.map eW)), some (.int c1v), some (.tup (A1.map eW)), some (.tup (B1.map eW)), some (.ref h4.length), some (eT G), none, none, none, none, none, none, none] (h6) = .nx [some (.scr ns), some NV, some HV, none, some WV, none, some wv, some (.tup [.int q0, .int q1]), some (.int c0v), some (.tup (A0.map eW)), some (.tup (G.texts.map eW)), some (.int c1v), some (.tup (A1.map eW)), some (.tup (B1.map eW)), some (.ref h4.length), some (eT G), none, none, none, none, none, none, none] (h7) := by
    simp only [ev_sAsg, ev_sDrop, ev_eMeth, ev_eMake, ev_eCall, ev_aCons, ev_aNil, ev_VarS, ev_Var0, ev_C, ev_e2, ev_eDisp, ev_eBi, ev_eLc, ev_iVal, ev_iArgs, wipeL, List.set, List.foldl, ev_frozen, Res.bind_ok, Res.thn_ok, ev_gNmS, ev_gNm0, Option.map_some, if_true, v2, v0, i3, is3, me3]
  obtain ⟨g7, al7⟩ := al [some (.scr ns), some NV, some HV, none, some WV, none, some wv, some (.tup [.int q0, .int q1]), some (.int c0v), some (.tup (A0.map eW)), some (.tup (G.texts.map eW)), some (.int c1v), some (.tup (A1.map eW)), some (.tup (B1.map eW)), some (.ref h4.length), some (eT G), none, none, none, none, none, none, none] 15 (fun x => ⟨_, rfl, fun _ => rfl, fun _ => rfl⟩)
  have ba : ∀ h, bAll [.lst [.bl true, .bl true, .bl true]] h = .ok (.bl true) h := fun h => rfl
  have t16 : (sIf (tNotM (tTru (eBi bAll (aCons (eLc (iVal (eVar 2)) (gNm 16) (tYesM) (eCall m_law_is_told_v1 (aCons (eVar 16) (aCons (eVar 15) (aNil)))) [16] frozen) (aNil))))) (sRet (eC (.bl false))) (sNil)) [some (.scr ns), some NV, some HV, none, some WV, none, some wv, some (.tup [.int q0, .int q1]), some (.int c0v), some (.tup (A0.map eW)), some (.tup (G.texts.map eW)), some (.int c1v), some (.tup (A1.map eW)), some (.tup (B1.map eW)), some (.ref h4.length), some (eT G), none, none, none, none, none, none, none] (h7) = .nx [some (.scr ns), some NV, some HV, none, some WV, none, some wv, some (.tup [.int q0, .int q1]), some (.int c0v), some (.tup (A0.map eW)), some (.tup (G.texts.map eW)), some (.int c1v), some (.tup (A1.map eW)), some (.tup (B1.map eW)), some (.ref h4.length), some (eT G), none, none, none, none, none, none, none] (h7 ++ g7) := by
    simp only [ev_sIf, ev_tNot, ev_tTru, ev_truB, ev_sNil, Bool.not_true, Bool.false_eq_true, if_false, ev_sAsg, ev_sDrop, ev_eMeth, ev_eMake, ev_eCall, ev_aCons, ev_aNil, ev_VarS, ev_Var0, ev_C, ev_e2, ev_eDisp, ev_eBi, ev_eLc, ev_iVal, ev_iArgs, wipeL, List.set, List.foldl, ev_frozen, Res.bind_ok, Res.thn_ok, ev_gNmS, ev_gNm0, Option.map_some, if_true, sHV, al7, ba]
  obtain ⟨h8, hh8⟩ : ∃ x, x = h7 ++ g7 := ⟨_, rfl⟩
  rw [← hh8] at t16
  have kv8 : h8[h4.length]? = some (.lst (KN.map eM)) := by rw [hh8, List.getElem?_append_left (List.getElem?_eq_some_iff.mp kv7).1]; exact kv7
  have t17 : (sAsg (eCall m_law_mix (aCons (eCall m_law_cell (aCons (eVar 0) (aCons (eC (.int 7)) (aNil)))) (aCons (eC (.int 9811)) (aCons (eC (.int 3)) (aNil))))) (gNm 17)) [some (.scr ns), some NV, some HV, none, some WV, none, some wv, some (.tup [.int q0, .int q1]), some (.int c0v), some (.tup (A0.map eW)), some (.tup (G.texts.map eW)), some (.int c1v), some (.tup (A1.map eW)), some (.tup (B1.map eW)), some (.ref h4.length), some (eT G), none, none, none, none, none, none, none] (h8) = .nx [some (.scr ns), some NV, some HV, none, some WV, none, some wv, some (.tup [.int q0, .int q1]), some (.int c0v), some (.tup (A0.map eW)), some (.tup (G.texts.map eW)), some (.int c1v), some (.tup (A1.map eW)), some (.tup (B1.map eW)), some (.ref h4.length), some (eT G), none, some (.int (at_ : Nat)), none, none, none, none, none] (h8) := by
    simp only [ev_sAsg, ev_sDrop, ev_eMeth, ev_eMake, ev_eCall, ev_aCons, ev_aNil, ev_VarS, ev_Var0, ev_C, ev_e2, ev_eDisp, ev_eBi, ev_eLc, ev_iVal, ev_iArgs, wipeL, List.set, List.foldl, ev_frozen, Res.bind_ok, Res.thn_ok, ev_gNmS, ev_gNm0, Option.map_some, if_true, c7, mx1]
  have ad1 : ∀ (a : Int) h, vAdd (.int a) (.int 1) h = .ok (.int (a + 1)) h := fun a h => rfl
  have mKm : ∀ h, mkTup [.int (W6.num at_), .int (W6.ct at_ + 1)] h = .ok (eM mk) h := fun h => by rw [m2, hmk]; rfl
  have t18 : (sAsg (eDisp mkTup (aCons (e2 vIx (eVar 1) (eVar 17)) (aCons (e2 vAdd (e2 vIx (eDisp mkTup (aCons (eVar 8) (aCons (eVar 11) (aCons (eC (.int 0)) (aNil))))) (eVar 17)) (eC (.int 1))) (aNil)))) (gNm 18)) [some (.scr ns), some NV, some HV, none, some WV, none, some wv, some (.tup [.int q0, .int q1]), some (.int c0v), some (.tup (A0.map eW)), some (.tup (G.texts.map eW)), some (.int c1v), some (.tup (A1.map eW)), some (.tup (B1.map eW)), some (.ref h4.length), some (eT G), none, some (.int (at_ : Nat)), none, none, none, none, none] (h8) = .nx [some (.scr ns), some NV, some HV, none, some WV, none, some wv, some (.tup [.int q0, .int q1]), some (.int c0v), some (.tup (A0.map eW)), some (.tup (G.texts.map eW)), some (.int c1v), some (.tup (A1.map eW)), some (.tup (B1.map eW)), some (.ref h4.length), some (eT G), none, some (.int (at_ : Nat)), some (eM mk), none, none, none, none] (h8) := by
    simp only [ev_sAsg, ev_sDrop, ev_eMeth, ev_eMake, ev_eCall, ev_aCons, ev_aNil, ev_VarS, ev_Var0, ev_C, ev_e2, ev_eDisp, ev_eBi, ev_eLc, ev_iVal, ev_iArgs, wipeL, List.set, List.foldl, ev_frozen, Res.bind_ok, Res.thn_ok, ev_gNmS, ev_gNm0, Option.map_some, if_true, nAt, m3, cAt, ad1, mKm]
  have dk : bDictK [.ref h4.length] h8 = .ok (.ref h8.length) (h8 ++ [.dK (kvI KN)]) := by simp only [bDictK, kv8, pairs_kvI, merge_kvI knd]
  have t19 : (sAsg (eBi bDictK (aCons (eVar 14) (aNil))) (gNm 19)) [some (.scr ns), some NV, some HV, none, some WV, none, some wv, some (.tup [.int q0, .int q1]), some (.int c0v), some (.tup (A0.map eW)), some (.tup (G.texts.map eW)), some (.int c1v), some (.tup (A1.map eW)), some (.tup (B1.map eW)), some (.ref h4.length), some (eT G), none, some (.int (at_ : Nat)), some (eM mk), none, none, none, none] (h8) = .nx [some (.scr ns), some NV, some HV, none, some WV, none, some wv, some (.tup [.int q0, .int q1]), some (.int c0v), some (.tup (A0.map eW)), some (.tup (G.texts.map eW)), some (.int c1v), some (.tup (A1.map eW)), some (.tup (B1.map eW)), some (.ref h4.length), some (eT G), none, some (.int (at_ : Nat)), some (eM mk), some (.ref h8.length), none, none, none] (h8 ++ [.dK (kvI KN)]) := by
    simp only [ev_sAsg, ev_sDrop, ev_eMeth, ev_eMake, ev_eCall, ev_aCons, ev_aNil, ev_VarS, ev_Var0, ev_C, ev_e2, ev_eDisp, ev_eBi, ev_eLc, ev_iVal, ev_iArgs, wipeL, List.set, List.foldl, ev_frozen, Res.bind_ok, Res.thn_ok, ev_gNmS, ev_gNm0, Option.map_some, if_true, dk]
  have x18a : ∀ h, vIx (eM mk) (.int 0) h = .ok (.int mk.1) h := fun h => rfl
  have x18b : ∀ h, vIx (eM mk) (.int 1) h = .ok (.int mk.2) h := fun h => rfl
  have si : setI (.ref h8.length) (.int mk.1) (.int mk.2) (h8 ++ [.dK (kvI KN)]) = some (h8 ++ [.dK (kvI K)]) := by
    rw [hK, ← putm, ← put_kvI]
    have z : (kvI KN).length < sizeLine := by rw [sizeLine_eq]; simp [kvI]; omega
    simp [setI, keyOf, z]
  have t20 : (sSub (eVar 19) (e2 vIx (eVar 18) (eC (.int 0))) (e2 vIx (eVar 18) (eC (.int 1)))) [some (.scr ns), some NV, some HV, none, some WV, none, some wv, some (.tup [.int q0, .int q1]), some (.int c0v), some (.tup (A0.map eW)), some (.tup (G.texts.map eW)), some (.int c1v), some (.tup (A1.map eW)), some (.tup (B1.map eW)), some (.ref h4.length), some (eT G), none, some (.int (at_ : Nat)), some (eM mk), some (.ref h8.length), none, none, none] (h8 ++ [.dK (kvI KN)]) = .nx [some (.scr ns), some NV, some HV, none, some WV, none, some wv, some (.tup [.int q0, .int q1]), some (.int c0v), some (.tup (A0.map eW)), some (.tup (G.texts.map eW)), some (.int c1v), some (.tup (A1.map eW)), some (.tup (B1.map eW)), some (.ref h4.length), some (eT G), none, some (.int (at_ : Nat)), some (eM mk), some (.ref h8.length), none, none, none] (h8 ++ [.dK (kvI K)]) := by
    simp only [ev_sAsg, ev_sDrop, ev_eMeth, ev_eMake, ev_eCall, ev_aCons, ev_aNil, ev_VarS, ev_Var0, ev_C, ev_e2, ev_eDisp, ev_eBi, ev_eLc, ev_iVal, ev_iArgs, wipeL, List.set, List.foldl, ev_frozen, Res.bind_ok, Res.thn_ok, ev_gNmS, ev_gNm0, Option.map_some, if_true, ev_sSub, x18a, x18b, si]
  have sk : bSorted [.ref h8.length] (h8 ++ [.dK (kvI K)]) = .ok (.lst ((srt (K.map (·.1))).map .int)) (h8 ++ [.dK (kvI K)]) := sorted_kvI last_get (by omega)
  have lch : lcL (srcItems ((srt (K.map (·.1))).map Val.int)) (gNm 16) tYesM (eDisp mkTup (aCons (eVar 16) (aCons (e2 vIx (eVar 19) (eVar 16)) (aNil)))) [some (.scr ns), some NV, some HV, none, some WV, none, some wv, some (.tup [.int q0, .int q1]), some (.int c0v), some (.tup (A0.map eW)), some (.tup (G.texts.map eW)), some (.int c1v), some (.tup (A1.map eW)), some (.tup (B1.map eW)), some (.ref h4.length), some (eT G), none, some (.int (at_ : Nat)), some (eM mk), some (.ref h8.length), none, none, none] (srcItems ((srt (K.map (·.1))).map Val.int)).len 0 (h8 ++ [.dK (kvI K)]) [] = .ok (kn.map eM) (h8 ++ [.dK (kvI K)]) := by
    rw [hkn, ← look_sorted Knd (fun k => (look K k).getD 0) (fun m hm => by rw [look_some Knd hm]; rfl)]
    refine lc_mapM (e := Val.int) _ (fun k hk => ?_) (by rw [sizeLine_eq, srt_len]; simp; omega)
    obtain ⟨m, hm, rfl⟩ := List.mem_map.mp (srt_mem.mp hk)
    refine ⟨[some (.scr ns), some NV, some HV, none, some WV, none, some wv, some (.tup [.int q0, .int q1]), some (.int c0v), some (.tup (A0.map eW)), some (.tup (G.texts.map eW)), some (.int c1v), some (.tup (A1.map eW)), some (.tup (B1.map eW)), some (.ref h4.length), some (eT G), some (.int m.1), some (.int (at_ : Nat)), some (eM mk), some (.ref h8.length), none, none, none], rfl, ?_⟩
    have ix : vIx (.ref h8.length) (.int m.1) (h8 ++ [.dK (kvI K)]) = .ok (.int m.2) (h8 ++ [.dK (kvI K)]) := by
      have := look_at' Knd hm
      simp [vIx, dGet, keyOf, this]
    simp only [ev_sAsg, ev_sDrop, ev_eMeth, ev_eMake, ev_eCall, ev_aCons, ev_aNil, ev_VarS, ev_Var0, ev_C, ev_e2, ev_eDisp, ev_eBi, ev_eLc, ev_iVal, ev_iArgs, wipeL, List.set, List.foldl, ev_frozen, Res.bind_ok, Res.thn_ok, ev_gNmS, ev_gNm0, Option.map_some, if_true, ix, m2, look_some Knd hm, Option.getD_some]
    rfl
  have t21 : (sAsg (eBi bTuple (aCons (eLc (iVal (eBi bSorted (aCons (eVar 19) (aNil)))) (gNm 16) (tYesM) (eDisp mkTup (aCons (eVar 16) (aCons (e2 vIx (eVar 19) (eVar 16)) (aNil)))) [16] frozen) (aNil))) (gNm 20)) [some (.scr ns), some NV, some HV, none, some WV, none, some wv, some (.tup [.int q0, .int q1]), some (.int c0v), some (.tup (A0.map eW)), some (.tup (G.texts.map eW)), some (.int c1v), some (.tup (A1.map eW)), some (.tup (B1.map eW)), some (.ref h4.length), some (eT G), none, some (.int (at_ : Nat)), some (eM mk), some (.ref h8.length), none, none, none] (h8 ++ [.dK (kvI K)]) = .nx [some (.scr ns), some NV, some HV, none, some WV, none, some wv, some (.tup [.int q0, .int q1]), some (.int c0v), some (.tup (A0.map eW)), some (.tup (G.texts.map eW)), some (.int c1v), some (.tup (A1.map eW)), some (.tup (B1.map eW)), some (.ref h4.length), some (eT G), none, some (.int (at_ : Nat)), some (eM mk), some (.ref h8.length), some (.tup (kn.map eM)), none, none] (h8 ++ [.dK (kvI K)]) := by
    simp only [ev_sAsg, ev_sDrop, ev_eMeth, ev_eMake, ev_eCall, ev_aCons, ev_aNil, ev_VarS, ev_Var0, ev_C, ev_e2, ev_eDisp, ev_eBi, ev_eLc, ev_iVal, ev_iArgs, wipeL, List.set, List.foldl, ev_frozen, Res.bind_ok, Res.thn_ok, ev_gNmS, ev_gNm0, Option.map_some, if_true, sk, srcOf, lch, bt]
  have J8 := (J7.app (g := g7))
  rw [← hh8] at J8
  have J8 := J8.app (g := [.dK (kvI K)])
  have ht6 : G.texts ≠ [] := by
    rw [gt]
    by_cases e : B0 ++ B1 = []
    · rw [if_pos e]; simp
    · rw [if_neg e]
      intro he
      exact e (List.length_eq_zero_iff.mp (by rw [← srt_len, he]; rfl))
  obtain ⟨a, F', h9, la9, J9, aw9, ai9⟩ := at_last18 J8 (by have := M.la; omega) hat (M.E at_ hat) ht6 qn q3 (tis 3) (tok 3) (tl 3) (xis 3) (xok 3) (xl 3) hkn2
  rw [← hmk] at la9
  have t22 : (sAsg (eCall m_law_last (aCons (e2 vIx (eVar 2) (eVar 17)) (aCons (eVar 15) (aCons (eVar 20) (aCons (eVar 18) (aCons (eCall m_law_mix (aCons (eCall m_law_cell (aCons (eVar 0) (aCons (eC (.int 7)) (aNil)))) (aCons (eC (.int 9803)) (aCons (eC (.int 3)) (aNil))))) (aCons (e2 vIx (eVar 4) (eC (.int 3))) (aNil)))))))) (gNm 21)) [some (.scr ns), some NV, some HV, none, some WV, none, some wv, some (.tup [.int q0, .int q1]), some (.int c0v), some (.tup (A0.map eW)), some (.tup (G.texts.map eW)), some (.int c1v), some (.tup (A1.map eW)), some (.tup (B1.map eW)), some (.ref h4.length), some (eT G), none, some (.int (at_ : Nat)), some (eM mk), some (.ref h8.length), some (.tup (kn.map eM)), none, none] (h8 ++ [.dK (kvI K)]) = .nx [some (.scr ns), some NV, some HV, none, some WV, none, some wv, some (.tup [.int q0, .int q1]), some (.int c0v), some (.tup (A0.map eW)), some (.tup (G.texts.map eW)), some (.int c1v), some (.tup (A1.map eW)), some (.tup (B1.map eW)), some (.ref h4.length), some (eT G), none, some (.int (at_ : Nat)), some (eM mk), some (.ref h8.length), some (.tup (kn.map eM)), some (eT F'), none] (h9) := by
    simp only [ev_sAsg, ev_sDrop, ev_eMeth, ev_eMake, ev_eCall, ev_aCons, ev_aNil, ev_VarS, ev_Var0, ev_C, ev_e2, ev_eDisp, ev_eBi, ev_eLc, ev_iVal, ev_iArgs, wipeL, List.set, List.foldl, ev_frozen, Res.bind_ok, Res.thn_ok, ev_gNmS, ev_gNm0, Option.map_some, if_true, hAt, c7, mx2, w3, la9]
--C23
  obtain ⟨W9, hW9⟩ : ∃ x, x = W6.acted at_ a [((num0 ns 0, 1), F')] := ⟨_, rfl⟩
  rw [← hW9] at J9
  have A9 : W9.A = W6.A ++ [a] := by rw [hW9]; rfl
  have S9 : W9.S at_ = W6.S at_ ++ [a] := by rw [hW9]; exact up_same
  have E9 : W9.E at_ = [((num0 ns 0, 1), F')] := by rw [hW9]; exact up_same
  have full : ∀ x ∈ W9.A, x ∈ W9.S at_ := fun x hx => by
    rw [A9, List.mem_append] at hx
    rw [S9, List.mem_append]
    rcases hx with h | h
    · exact .inl ((M.S at_ hat x).mpr h)
    · exact .inr h
  have la9' : W9.A.length ≤ 20 := by rw [A9]; have := M.la; simp; omega
  obtain ⟨W10, h10, l', lp, ⟨v22, hv22⟩, J10, A10, S10⟩ := loop18 J9 la9' hat full (l := [some (.scr ns), some NV, some HV, none, some WV, none, some wv, some (.tup [.int q0, .int q1]), some (.int c0v), some (.tup (A0.map eW)), some (.tup (G.texts.map eW)), some (.int c1v), some (.tup (A1.map eW)), some (.tup (B1.map eW)), some (.ref h4.length), some (eT G), none, some (.int (at_ : Nat)), some (eM mk), some (.ref h8.length), some (.tup (kn.map eM)), some (eT F'), none]) ⟨_, _, _, by rw [hHV], rfl⟩
  have hv23 : l' = [some (.scr ns), some NV, some HV, none, some WV, none, some wv, some (.tup [.int q0, .int q1]), some (.int c0v), some (.tup (A0.map eW)), some (.tup (G.texts.map eW)), some (.int c1v), some (.tup (A1.map eW)), some (.tup (B1.map eW)), some (.ref h4.length), some (eT G), none, some (.int (at_ : Nat)), some (eM mk), some (.ref h8.length), some (.tup (kn.map eM)), some (eT F'), v22] := hv22
  rw [hv23] at lp
  have m5i : ∀ h, mkTup [.int 0, .int 1, .int 2, .int 0, .int 1] h = .ok (.tup [.int 0, .int 1, .int 2, .int 0, .int 1]) h := fun h => ev_mkTup (by simp)
  have fv : ∀ h, srcOf (.tup [.int 0, .int 1, .int 2, .int 0, .int 1]) h = .ok (srcItems [.int 0, .int 1, .int 2, .int 0, .int 1]) h := fun h => rfl
  have t23 : (sFor (iVal (eDisp mkTup (aCons (eC (.int 0)) (aCons (eC (.int 1)) (aCons (eC (.int 2)) (aCons (eC (.int 0)) (aCons (eC (.int 1)) (aNil)))))))) (gNm 22) m_law_k18_f0) [some (.scr ns), some NV, some HV, none, some WV, none, some wv, some (.tup [.int q0, .int q1]), some (.int c0v), some (.tup (A0.map eW)), some (.tup (G.texts.map eW)), some (.int c1v), some (.tup (A1.map eW)), some (.tup (B1.map eW)), some (.ref h4.length), some (eT G), none, some (.int (at_ : Nat)), some (eM mk), some (.ref h8.length), some (.tup (kn.map eM)), some (eT F'), none] (h9) = .nx [some (.scr ns), some NV, some HV, none, some WV, none, some wv, some (.tup [.int q0, .int q1]), some (.int c0v), some (.tup (A0.map eW)), some (.tup (G.texts.map eW)), some (.int c1v), some (.tup (A1.map eW)), some (.tup (B1.map eW)), some (.ref h4.length), some (eT G), none, some (.int (at_ : Nat)), some (eM mk), some (.ref h8.length), some (.tup (kn.map eM)), some (eT F'), v22] h10 := by
    simp only [ev_sFor, ev_iVal, ev_eDisp, ev_aCons, ev_aNil, ev_C, Res.bind_ok, Res.thn_ok, m5i, fv, lp]
  have wh9 : ∀ a ∈ W9.A, a.which = (num0 ns 0, 1) := fun x hx => by
    rw [A9, List.mem_append] at hx
    rcases hx with h | h
    · exact M.wh x h
    · rw [List.mem_singleton.mp h]; exact aw9
  have wh10 : ∀ a ∈ W10.A, a.which = (num0 ns 0, 1) := fun x hx => wh9 x (by rw [← A10]; exact hx)
  obtain ⟨_, hg9, _, _, _, g9⟩ := J9.has la9' hat E9
  obtain ⟨ex9, L9, _⟩ := (J9.O.sh at_ (by rw [J9.m]; exact hat)).ok _ F' hg9
  have S99 : ∀ x, x ∈ W9.S at_ ↔ x ∈ W9.A := fun x => ⟨(J9.O.cl at_ (by rw [J9.m]; exact hat)).sub x, full x⟩
  have E10 : ∀ i, i < 3 → W10.E i = [((num0 ns 0, 1), F')] := fun i hi => alike18 J10.O J10.m wh10 hi (S := W9.S at_) (fun x => (S10 i hi x).trans (S99 x).symm) ⟨a, by rw [S9]; simp⟩ L9 g9
  obtain ⟨g10, al10⟩ := all18 J10 (by rw [A10]; exact la9') E10 (l := [some (.scr ns), some NV, some HV, none, some WV, none, some wv, some (.tup [.int q0, .int q1]), some (.int c0v), some (.tup (A0.map eW)), some (.tup (G.texts.map eW)), some (.int c1v), some (.tup (A1.map eW)), some (.tup (B1.map eW)), some (.ref h4.length), some (eT G), none, some (.int (at_ : Nat)), some (eM mk), some (.ref h8.length), some (.tup (kn.map eM)), some (eT F'), v22]) (s := 21) (fun x => ⟨_, rfl, fun _ => rfl, fun _ => rfl⟩)
  have t24 : (sRet (eBi bAll (aCons (eLc (iVal (eVar 2)) (gNm 16) (tYesM) (eCall m_law_is_told_v1 (aCons (eVar 16) (aCons (eVar 21) (aNil)))) [16] frozen) (aNil)))) [some (.scr ns), some NV, some HV, none, some WV, none, some wv, some (.tup [.int q0, .int q1]), some (.int c0v), some (.tup (A0.map eW)), some (.tup (G.texts.map eW)), some (.int c1v), some (.tup (A1.map eW)), some (.tup (B1.map eW)), some (.ref h4.length), some (eT G), none, some (.int (at_ : Nat)), some (eM mk), some (.ref h8.length), some (.tup (kn.map eM)), some (eT F'), v22] h10 = .rt (.bl true) (h10 ++ g10) := by
    simp only [ev_sRet, ev_sAsg, ev_sDrop, ev_eMeth, ev_eMake, ev_eCall, ev_aCons, ev_aNil, ev_VarS, ev_Var0, ev_C, ev_e2, ev_eDisp, ev_eBi, ev_eLc, ev_iVal, ev_iArgs, wipeL, List.set, List.foldl, ev_frozen, Res.bind_ok, Res.thn_ok, ev_gNmS, ev_gNm0, Option.map_some, if_true, sHV, al10, ba]
  refine ⟨h10 ++ g10, ?_⟩
  unfold m_law_k18 mF
  have i0 : ([Val.scr ns].map some ++ List.replicate (23 - [Val.scr ns].length) none : Loc) = [some (.scr ns), none, none, none, none, none, none, none, none, none, none, none, none, none, none, none, none, none, none, none, none, none, none] := rfl
  have run := (sts t0).trans ((sts t1).trans ((sts t2).trans ((sts t3).trans ((sts t4).trans ((sts t5).trans ((sts t6).trans ((sts t7).trans ((sts t8).trans ((sts t9).trans ((sts t10).trans ((sts t11).trans ((sts t12).trans ((sts t13).trans ((sts t14).trans ((sts t15).trans ((sts t16).trans ((sts t17).trans ((sts t18).trans ((sts t19).trans ((sts t20).trans ((sts t21).trans ((sts t22).trans ((sts t23).trans (t24))))))))))))))))))))))))
  simp only [List.map_cons, List.map_nil, List.cons_append, List.nil_append, List.length_cons, List.length_nil, List.replicate, Nat.reduceAdd, Nat.reduceSub, run]
end
end
end MM
namespace MM
open PySem PySem.Spec PyProof.Rows L2
/-- a law that calls defs that may let errors out, but lets none out itself -/
theorem walk_ofW {l : PySem.W.OpenLaw} {n k : Nat} {q : Program} {loose : List Str} {XP : (Str → Option Value) → Heap → Prop} {YP : World → Heap → Prop} {d : DefRec} {x : Str}
    (hn : l.most = some n) (hn2 : n ≤ sizeLine) (hdf : d.params.defaults = []) (hr : Room k callerA)
    (F : ∀ (w : World) (mg : Str → Option Value) (fa : Addr) (h : Heap), YP w h → h.Ns mainGlobals mg → mg d.name = some (.ref fa) →
      ∃ (K : PySem.W.Frag) (fd : FuncData) (sp : Sp), K.In h ∧ (∀ (s : Shared) (u : Value), BindsTo s fd ⟨[u], []⟩ [(x, u)]) ∧
        (∀ (H : Hp) (a : Addr) (ns : List Int), ns.length ≤ n → Only H → SqL K H a (ns.map V.int) → sp [.ref a] H (fun v _ => v = .bl true) fun _ _ _ => False) ∧
        ∀ base : Heap, K.In base → base.Ns mainGlobals mg → FnOk l.prog w K mg base (L2.CX l.prog w) k fa fd [x] sp) :
    PySem.W.WalkO q loose XP YP l.row.toRowW d [] (fun f vs => PySem.call f vs) := by
  refine Att.attach_call hn hdf fun w s₀ s₁ mg mb fa o pm cd doc a vs ns G Y ho hd hcd hmg hobj hints hlen hg => ?_
  obtain ⟨K, fd, sp, KX, hb, hsp, hF⟩ := F w mg fa _ Y G.T.g hmg
  exact law_call KX G.T.g G.T.b G.T.builtins G.T.nolimit hg hobj hints (Nat.le_trans hlen hn2) hr hF hb (fun H hO hS => hsp H a ns hlen hO hS) fun H e s' ⟨_, _, _, _, _, _, _, _, _, _, _, _, z⟩ => z
end MM
namespace MM
open PySem L2
/-- a def of which nothing is told -/
theorem FnM.bad {P : Program} {w : World} {K : PySem.W.Frag} {mg : Str → Option Value} {base : Heap} {G : Glob} {f : Addr} {x qual : Str} {params : Arguments} {body : List Stmt} {scope : Scope} {fd : FuncData} {N ps : List Str} (F : FunD K x qual params body scope [] [] f fd) (S : FnScope N ps scope)
    (hb : ∀ (kV doc pm : Value) (an : Option Addr) (cdv ct : Value) (us : List Value), us.length = ps.length → bindArgs (PySem.W.fnOf x qual params body scope .none kV doc pm an cdv ct) ⟨us, []⟩ = pure (ps.zip us)) : FnM P w K mg base G 0 f ps.length (fun _ _ => .bad) := by
  refine ⟨fd, ps, ⟨fun vs H Q E h => h.1, fun A outer s H args us vs Q E hr he hbd rv h => ?_⟩, F.bindsN hb, F.kp⟩
  obtain ⟨_, r, h1, xs, q, z, p⟩ := h
  exact p.elim
end MM
namespace LW
open PySem L2 MM
structure Env (K : PySem.W.Frag) (mg : Str → Option Value) : Prop where
  g_known_together : mg "known_together" = some (.ref (He.ga K "known_together"))
  g_is_within : mg "is_within" = some (.ref (He.ga K "is_within"))
  g_kept_of : mg "kept_of" = some (.ref (He.ga K "kept_of"))
  g_marked_together : mg "marked_together" = some (.ref (He.ga K "marked_together"))
  g_put_together : mg "put_together" = some (.ref (He.ga K "put_together"))
  g_is_gone : mg "is_gone" = some (.ref (He.ga K "is_gone"))
  g_is_text : mg "is_text" = some (.ref (He.ga K "is_text"))
  g_is_name : mg "is_name" = some (.ref (He.ga K "is_name"))
  g__law_change : mg "_law_change" = some (.ref (He.ga K "_law_change"))
  g__law_mix : mg "_law_mix" = some (.ref (He.ga K "_law_mix"))
  g__law_last : mg "_law_last" = some (.ref (He.ga K "_law_last"))
  g__law_perm : mg "_law_perm" = some (.ref (He.ga K "_law_perm"))
  g__law_same : mg "_law_same" = some (.ref (He.ga K "_law_same"))
  g__law_cell : mg "_law_cell" = some (.ref (He.ga K "_law_cell"))
  g__law_text : mg "_law_text" = some (.ref (He.ga K "_law_text"))
  g__law_name : mg "_law_name" = some (.ref (He.ga K "_law_name"))
  g_has_heard : mg "has_heard" = some (.ref (He.ga K "has_heard"))
  g_name_of : mg "name_of" = some (.ref (He.ga K "name_of"))
  g_quarrels_of : mg "quarrels_of" = some (.ref (He.ga K "quarrels_of"))
  g__law_is_told : mg "_law_is_told" = some (.ref (He.ga K "_law_is_told"))
  g_law : mg "law" = some (.ref (He.ga K "law"))
  n_len : mg "len" = none
  n_isinstance : mg "isinstance" = none
  n_all : mg "all" = none
  n_any : mg "any" = none
  n_range : mg "range" = none
  n_sorted : mg "sorted" = none
  n_tuple : mg "tuple" = none
  n_dict : mg "dict" = none
  n_set : mg "set" = none
  n_list : mg "list" = none
  n_str : mg "str" = none
  n_int : mg "int" = none
  n_bool : mg "bool" = none
  n_max : mg "max" = none
  n_min : mg "min" = none
  n_zip : mg "zip" = none
  LETTERS : ∃ t, mg "LETTERS" = some (.str "abcdefghijklmnopqrstuvwxyz" t)
  g_House : mg "House" = some (.ref (He.ga K "House"))
  c_House : Cls K (He.ga K "House")
  mk_House : Mk K (He.ga K "House") (He.ma K (He.ga K "House") "__init__")
  m_House_file : Meth K (He.ga K "House") "file" (He.ma K (He.ga K "House") "file")
  m_House_take : Meth K (He.ga K "House") "take" (He.ma K (He.ga K "House") "take")
  m_House_there : Meth K (He.ga K "House") "there" (He.ma K (He.ga K "House") "there")
  m_House_must_be_text : Meth K (He.ga K "House") "must_be_text" (He.ma K (He.ga K "House") "must_be_text")
  m_House_next_mark : Meth K (He.ga K "House") "next_mark" (He.ma K (He.ga K "House") "next_mark")
  m_House_write : Meth K (He.ga K "House") "write" (He.ma K (He.ga K "House") "write")
  m_House_must_be_name : Meth K (He.ga K "House") "must_be_name" (He.ma K (He.ga K "House") "must_be_name")
  m_House_rename : Meth K (He.ga K "House") "rename" (He.ma K (He.ga K "House") "rename")
  m_House_drop : Meth K (He.ga K "House") "drop" (He.ma K (He.ga K "House") "drop")
  m_House_make : Meth K (He.ga K "House") "make" (He.ma K (He.ga K "House") "make")
  m_House_news_for : Meth K (He.ga K "House") "news_for" (He.ma K (He.ga K "House") "news_for")
  m_House_heard : Meth K (He.ga K "House") "heard" (He.ma K (He.ga K "House") "heard")
  m_House_text_of : Meth K (He.ga K "House") "text_of" (He.ma K (He.ga K "House") "text_of")
  m_House_ids : Meth K (He.ga K "House") "ids" (He.ma K (He.ga K "House") "ids")
  m_House_shown : Meth K (He.ga K "House") "shown" (He.ma K (He.ga K "House") "shown")
  m_House_quarrels : Meth K (He.ga K "House") "quarrels" (He.ma K (He.ga K "House") "quarrels")
  m_House_gone : Meth K (He.ga K "House") "gone" (He.ma K (He.ga K "House") "gone")
  na_House_own : NoAttr K (He.ga K "House") "own"
  na_House_acts : NoAttr K (He.ga K "House") "acts"
  na_House_shelf : NoAttr K (He.ga K "House") "shelf"
  na_House_told : NoAttr K (He.ga K "House") "told"
  g_Meeting : mg "Meeting" = some (.ref (He.ga K "Meeting"))
  c_Meeting : Cls K (He.ga K "Meeting")
  mk_Meeting : Mk K (He.ga K "Meeting") (He.ma K (He.ga K "Meeting") "__init__")
  m_Meeting_step : Meth K (He.ga K "Meeting") "step" (He.ma K (He.ga K "Meeting") "step")
  m_Meeting_rest : Meth K (He.ga K "Meeting") "rest" (He.ma K (He.ga K "Meeting") "rest")
  na_Meeting_houses : NoAttr K (He.ga K "Meeting") "houses"
  na_Meeting_left : NoAttr K (He.ga K "Meeting") "left"
  g_NoFile : mg "NoFile" = some (.ref (He.ga K "NoFile"))
  x_NoFile : PySem.W.excIn K (He.ga K "NoFile") He.veBase "ValueError.__new__" = true
  k_NoFile : PySem.W.keepIn K (.ref (He.ga K "NoFile")) = true
  sb_NoFile : PySem.W.subIn K (.ref (He.ga K "NoFile")) (.type "BaseException") = some true
  ty_NoFile : PySem.W.typeIn K (.ref (He.ga K "NoFile")) = some (.type "type")
  g_NoName : mg "NoName" = some (.ref (He.ga K "NoName"))
  x_NoName : PySem.W.excIn K (He.ga K "NoName") He.veBase "ValueError.__new__" = true
  k_NoName : PySem.W.keepIn K (.ref (He.ga K "NoName")) = true
  sb_NoName : PySem.W.subIn K (.ref (He.ga K "NoName")) (.type "BaseException") = some true
  ty_NoName : PySem.W.typeIn K (.ref (He.ga K "NoName")) = some (.type "type")
  g_NoWords : mg "NoWords" = some (.ref (He.ga K "NoWords"))
  x_NoWords : PySem.W.excIn K (He.ga K "NoWords") He.veBase "ValueError.__new__" = true
  k_NoWords : PySem.W.keepIn K (.ref (He.ga K "NoWords")) = true
  sb_NoWords : PySem.W.subIn K (.ref (He.ga K "NoWords")) (.type "BaseException") = some true
  ty_NoWords : PySem.W.typeIn K (.ref (He.ga K "NoWords")) = some (.type "type")
  em_NoFile_NoFile : PySem.W.exmOne K (.ref (He.ga K "NoFile")) (.ref (He.ga K "NoFile")) = some true
  em_NoName_NoFile : PySem.W.exmOne K (.ref (He.ga K "NoName")) (.ref (He.ga K "NoFile")) = some false
  em_NoWords_NoFile : PySem.W.exmOne K (.ref (He.ga K "NoWords")) (.ref (He.ga K "NoFile")) = some false
  D0 : ∃ fd, FunD K "file" "House.file" (defArgs s0) (defBody s0) (defScope s0) [] [] (He.ma K (He.ga K "House") "file") fd
  D1 : ∃ fd, FunD K "known_together" "known_together" (defArgs s1) (defBody s1) (defScope s1) [] [] (He.ga K "known_together") fd
  D2 : ∃ fd, FunD K "is_within" "is_within" (defArgs s2) (defBody s2) (defScope s2) [] [] (He.ga K "is_within") fd
  D3 : ∃ fd, FunD K "kept_of" "kept_of" (defArgs s3) (defBody s3) (defScope s3) [] [] (He.ga K "kept_of") fd
  D4 : ∃ fd, FunD K "marked_together" "marked_together" (defArgs s4) (defBody s4) (defScope s4) [] [] (He.ga K "marked_together") fd
  D5 : ∃ fd, FunD K "put_together" "put_together" (defArgs s5) (defBody s5) (defScope s5) [] [] (He.ga K "put_together") fd
  D6 : ∃ fd, FunD K "take" "House.take" (defArgs s6) (defBody s6) (defScope s6) [] [] (He.ma K (He.ga K "House") "take") fd
  D7 : ∃ fd, FunD K "step" "Meeting.step" (defArgs s7) (defBody s7) (defScope s7) [] [] (He.ma K (He.ga K "Meeting") "step") fd
  D8 : ∃ fd, FunD K "rest" "Meeting.rest" (defArgs s8) (defBody s8) (defScope s8) [] [] (He.ma K (He.ga K "Meeting") "rest") fd
  D9 : ∃ fd, FunD K "is_gone" "is_gone" (defArgs s9) (defBody s9) (defScope s9) [] [] (He.ga K "is_gone") fd
  D10 : ∃ fd, FunD K "there" "House.there" (defArgs s10) (defBody s10) (defScope s10) [] [] (He.ma K (He.ga K "House") "there") fd
  D11 : ∃ fd, FunD K "is_text" "is_text" (defArgs s11) (defBody s11) (defScope s11) [] [] (He.ga K "is_text") fd
  D12 : ∃ fd, FunD K "must_be_text" "House.must_be_text" (defArgs s12) (defBody s12) (defScope s12) [] [] (He.ma K (He.ga K "House") "must_be_text") fd
  D13 : ∃ fd, FunD K "next_mark" "House.next_mark" (defArgs s13) (defBody s13) (defScope s13) [] [] (He.ma K (He.ga K "House") "next_mark") fd
  D14 : ∃ fd, FunD K "write" "House.write" (defArgs s14) (defBody s14) (defScope s14) [] [] (He.ma K (He.ga K "House") "write") fd
  D15 : ∃ fd, FunD K "is_name" "is_name" (defArgs s15) (defBody s15) (defScope s15) [] [] (He.ga K "is_name") fd
  D16 : ∃ fd, FunD K "must_be_name" "House.must_be_name" (defArgs s16) (defBody s16) (defScope s16) [] [] (He.ma K (He.ga K "House") "must_be_name") fd
  D17 : ∃ fd, FunD K "rename" "House.rename" (defArgs s17) (defBody s17) (defScope s17) [] [] (He.ma K (He.ga K "House") "rename") fd
  D18 : ∃ fd, FunD K "_law_change" "_law_change" (defArgs s18) (defBody s18) (defScope s18) [] [] (He.ga K "_law_change") fd
  D19 : ∃ fd, FunD K "_law_mix" "_law_mix" (defArgs s19) (defBody s19) (defScope s19) [] [] (He.ga K "_law_mix") fd
  D20 : ∃ fd, FunD K "drop" "House.drop" (defArgs s20) (defBody s20) (defScope s20) [] [] (He.ma K (He.ga K "House") "drop") fd
  D21 : ∃ fd, FunD K "_law_last" "_law_last" (defArgs s21) (defBody s21) (defScope s21) [] [] (He.ga K "_law_last") fd
  D22 : ∃ fd, FunD K "_law_perm" "_law_perm" (defArgs s22) (defBody s22) (defScope s22) [] [] (He.ga K "_law_perm") fd
  D23 : ∃ fd, FunD K "__init__" "House.__init__" (defArgs s23) (defBody s23) (defScope s23) [] [] (He.ma K (He.ga K "House") "__init__") fd
  D24 : ∃ fd, FunD K "_law_same" "_law_same" (defArgs s24) (defBody s24) (defScope s24) [] [] (He.ga K "_law_same") fd
  D25 : ∃ fd, FunD K "_law_cell" "_law_cell" (defArgs s25) (defBody s25) (defScope s25) [] [] (He.ga K "_law_cell") fd
  D26 : ∃ fd, FunD K "_law_text" "_law_text" (defArgs s26) (defBody s26) (defScope s26) [] [] (He.ga K "_law_text") fd
  D27 : ∃ fd, FunD K "_law_name" "_law_name" (defArgs s27) (defBody s27) (defScope s27) [] [] (He.ga K "_law_name") fd
  D28 : ∃ fd, FunD K "make" "House.make" (defArgs s28) (defBody s28) (defScope s28) [] [] (He.ma K (He.ga K "House") "make") fd
  D29 : ∃ fd, FunD K "has_heard" "has_heard" (defArgs s29) (defBody s29) (defScope s29) [] [] (He.ga K "has_heard") fd
  D30 : ∃ fd, FunD K "news_for" "House.news_for" (defArgs s30) (defBody s30) (defScope s30) [] [] (He.ma K (He.ga K "House") "news_for") fd
  D31 : ∃ fd, FunD K "heard" "House.heard" (defArgs s31) (defBody s31) (defScope s31) [] [] (He.ma K (He.ga K "House") "heard") fd
  D32 : ∃ fd, FunD K "__init__" "Meeting.__init__" (defArgs s32) (defBody s32) (defScope s32) [] [] (He.ma K (He.ga K "Meeting") "__init__") fd
  D33 : ∃ fd, FunD K "text_of" "House.text_of" (defArgs s33) (defBody s33) (defScope s33) [] [] (He.ma K (He.ga K "House") "text_of") fd
  D34 : ∃ fd, FunD K "ids" "House.ids" (defArgs s34) (defBody s34) (defScope s34) [] [] (He.ma K (He.ga K "House") "ids") fd
  D35 : ∃ fd, FunD K "name_of" "name_of" (defArgs s35) (defBody s35) (defScope s35) [] [] (He.ga K "name_of") fd
  D36 : ∃ fd, FunD K "shown" "House.shown" (defArgs s36) (defBody s36) (defScope s36) [] [] (He.ma K (He.ga K "House") "shown") fd
  D37 : ∃ fd, FunD K "quarrels_of" "quarrels_of" (defArgs s37) (defBody s37) (defScope s37) [] [] (He.ga K "quarrels_of") fd
  D38 : ∃ fd, FunD K "quarrels" "House.quarrels" (defArgs s38) (defBody s38) (defScope s38) [] [] (He.ma K (He.ga K "House") "quarrels") fd
  D39 : ∃ fd, FunD K "gone" "House.gone" (defArgs s39) (defBody s39) (defScope s39) [] [] (He.ma K (He.ga K "House") "gone") fd
  D40 : ∃ fd, FunD K "_law_is_told" "_law_is_told" (defArgs s40) (defBody s40) (defScope s40) [] [] (He.ga K "_law_is_told") fd
  D41 : ∃ fd, FunD K "law" "law" (defArgs s41) (defBody s41) (defScope s41) [] [] (He.ga K "law") fd
theorem nd_House : (["own", "acts", "shelf", "told"] : List Str).Nodup := by decide
theorem nd_Meeting : (["houses", "left"] : List Str).Nodup := by decide
theorem nf_House_file : ¬ ("file" : Str) ∈ (["own", "acts", "shelf", "told"] : List Str) := by decide
theorem nf_House_take : ¬ ("take" : Str) ∈ (["own", "acts", "shelf", "told"] : List Str) := by decide
theorem nf_House_there : ¬ ("there" : Str) ∈ (["own", "acts", "shelf", "told"] : List Str) := by decide
theorem nf_House_must_be_text : ¬ ("must_be_text" : Str) ∈ (["own", "acts", "shelf", "told"] : List Str) := by decide
theorem nf_House_next_mark : ¬ ("next_mark" : Str) ∈ (["own", "acts", "shelf", "told"] : List Str) := by decide
theorem nf_House_write : ¬ ("write" : Str) ∈ (["own", "acts", "shelf", "told"] : List Str) := by decide
theorem nf_House_must_be_name : ¬ ("must_be_name" : Str) ∈ (["own", "acts", "shelf", "told"] : List Str) := by decide
theorem nf_House_rename : ¬ ("rename" : Str) ∈ (["own", "acts", "shelf", "told"] : List Str) := by decide
theorem nf_House_drop : ¬ ("drop" : Str) ∈ (["own", "acts", "shelf", "told"] : List Str) := by decide
theorem nf_House_make : ¬ ("make" : Str) ∈ (["own", "acts", "shelf", "told"] : List Str) := by decide
theorem nf_House_news_for : ¬ ("news_for" : Str) ∈ (["own", "acts", "shelf", "told"] : List Str) := by decide
theorem nf_House_heard : ¬ ("heard" : Str) ∈ (["own", "acts", "shelf", "told"] : List Str) := by decide
theorem nf_House_text_of : ¬ ("text_of" : Str) ∈ (["own", "acts", "shelf", "told"] : List Str) := by decide
theorem nf_House_ids : ¬ ("ids" : Str) ∈ (["own", "acts", "shelf", "told"] : List Str) := by decide
theorem nf_House_shown : ¬ ("shown" : Str) ∈ (["own", "acts", "shelf", "told"] : List Str) := by decide
theorem nf_House_quarrels : ¬ ("quarrels" : Str) ∈ (["own", "acts", "shelf", "told"] : List Str) := by decide
theorem nf_House_gone : ¬ ("gone" : Str) ∈ (["own", "acts", "shelf", "told"] : List Str) := by decide
theorem nf_Meeting_step : ¬ ("step" : Str) ∈ (["houses", "left"] : List Str) := by decide
theorem nf_Meeting_rest : ¬ ("rest" : Str) ∈ (["houses", "left"] : List Str) := by decide
def Gb (K : PySem.W.Frag) : Glob where
  cls := fun n => match n with
    | 0 => some (He.ga K "House")
    | 1 => some (He.ga K "Meeting")
    | _ => none
  flds := fun n => match n with
    | 0 => ["own", "acts", "shelf", "told"]
    | 1 => ["houses", "left"]
    | _ => []
  exc := fun n => match n with
    | 1 => some (He.ga K "NoFile")
    | 2 => some (He.ga K "NoName")
    | 3 => some (He.ga K "NoWords")
    | _ => none
  fn := fun n => match n with
    | 0 => some (He.ga K "is_name")
    | 1 => some (He.ga K "is_text")
    | _ => none
  K := K
section
variable {P : Program} {w : World} {K : PySem.W.Frag} {mg : Str → Option Value} {base : Heap}
theorem sc0 : FnScope ["self", "which"] ["self", "which"] (defScope s0) := ⟨rfl, rfl, rfl, by decide +kernel, rfl, by decide +kernel, by decide +kernel⟩
theorem ok_House_file (E : Env K mg) : FnM P w K mg base (Gb K) 1 (He.ma K (He.ga K "House") "file") 2 m_House_file := by
  have sc := sc0
  obtain ⟨fd, D⟩ := E.D0
  exact FnM.of D sc (fun _ _ _ _ _ _ us hl => match us, hl with | [_, _], _ => rfl) (fun cdv A outer s H E0 hr =>
  mss_cons (ms_if (mt_cmp (om_notIn hr.u65) (me_var (i := 1)) (me_fld (me_var (i := 0)) rfl E.c_House E.na_House_shelf nd_House rfl) (by with_unfolding_all rfl)) (mss_one (ms_raise rfl (takes_of rfl rfl rfl rfl) PySem.F.excBase_ValueError E.x_NoFile rfl E.g_NoFile E.k_NoFile (raises_own E.sb_NoFile E.ty_NoFile) rfl)) (mss_nil))
  (mss_one (ms_ret (me_ix (om_ix hr.u1) (me_fld (me_var (i := 0)) rfl E.c_House E.na_House_shelf nd_House rfl) (me_var (i := 1))))))
theorem sc1 : FnScope ["one", "other", "counts", "house", "count"] ["one", "other"] (defScope s1) := ⟨rfl, rfl, rfl, by decide +kernel, rfl, by decide +kernel, by decide +kernel⟩
theorem okr_known_together (E : Env K mg) : FnM P w K mg base (Gb K) 1 (He.ga K "known_together") 2 m_known_together := by
  have sc := sc1
  obtain ⟨fd, D⟩ := E.D1
  exact FnM.of D sc (fun _ _ _ _ _ _ us hl => match us, hl with | [_, _], _ => rfl) (fun cdv A outer s H E0 hr =>
  mss_cons (ms_set (i := 2) sc.nd (me_biT (cm_dictK rfl) rfl E.n_dict PyProof.Rows.boot_dict (ma_cons (me_lc (own := [("house", 3), ("count", 4)]) (.inl rfl) rfl sc.nd (mi_val (me_var (i := 0))) (blkOk_by (by kernel_rfl)) (fun _ _ _ _ _ => mg_tup rfl (mgs_cons (mg_name sc.nd) (mgs_cons (mg_name sc.nd) (mgs_nil)))) (fun _ _ _ _ _ => mts_nil) (fun _ _ _ _ _ => me_tup (ma_cons (me_var (i := 3)) (ma_cons (me_var (i := 4)) (ma_nil)))) (by decide)) (ma_nil))))
  (mss_cons (ms_for (passes_of rfl) rfl (mi_val (me_var (i := 1))) (mg_tup rfl (mgs_cons (mg_name sc.nd) (mgs_cons (mg_name sc.nd) (mgs_nil)))) (mss_one (ms_sub hr.u1 (me_var (i := 2)) (me_var (i := 3)) (me_bi (cm_max rfl) rfl E.n_max PyProof.Rows.boot_max (ma_cons (me_var (i := 4)) (ma_cons (me_get2 hr.u1 (me_var (i := 2)) (me_var (i := 3)) (me_int)) (ma_nil)))))))
  (mss_one (ms_ret (me_biT cm_tuple rfl E.n_tuple PyProof.Rows.boot_tuple (ma_cons (me_bi (cm_sorted hr.u200 rfl) rfl E.n_sorted PyProof.Rows.boot_sorted (ma_cons (me_lock (which := eVar 2) (me_lc (own := [("house", 3)]) (.inl rfl) rfl sc.nd (mi_keys (me_var (i := 2))) (blkOk_by (by kernel_rfl)) (fun _ _ _ _ _ => mg_name sc.nd) (fun _ _ _ _ _ => mts_nil) (fun _ _ _ _ _ => me_tup (ma_cons (me_var (i := 3)) (ma_cons (me_ix (om_ix hr.u1) (me_var (i := 2)) (me_var (i := 3))) (ma_nil)))) (by decide))) (ma_nil))) (ma_nil)))))))
theorem ok_known_together (E : Env K mg) : FnM P w K mg base (Gb K) 1 (He.ga K "known_together") 2 s_known_together := (okr_known_together E).le le_known_together
theorem sc2 : FnScope ["mark", "known", "house", "count"] ["mark", "known"] (defScope s2) := ⟨rfl, rfl, rfl, by decide +kernel, rfl, by decide +kernel, by decide +kernel⟩
theorem ok_is_within (E : Env K mg) : FnM P w K mg base (Gb K) 1 (He.ga K "is_within") 2 m_is_within := by
  have sc := sc2
  obtain ⟨fd, D⟩ := E.D2
  exact FnM.of D sc (fun _ _ _ _ _ _ us hl => match us, hl with | [_, _], _ => rfl) (fun cdv A outer s H E0 hr =>
  mss_one (ms_ret (me_bi (cm_any rfl) rfl E.n_any PyProof.Rows.boot_any (ma_cons (me_lc (own := [("house", 2), ("count", 3)]) (.inl rfl) rfl sc.nd (mi_val (me_var (i := 1))) (blkOk_by (by kernel_rfl)) (fun _ _ _ _ _ => mg_tup rfl (mgs_cons (mg_name sc.nd) (mgs_cons (mg_name sc.nd) (mgs_nil)))) (fun _ _ _ _ _ => mts_nil) (fun _ _ _ _ _ => me_and (me_cmp (om_eq hr.units) (me_var (i := 2)) (me_ix (om_ix hr.u1) (me_var (i := 0)) (me_int)) (nomark _)) (me_one (me_cmp om_ge (me_var (i := 3)) (me_ix (om_ix hr.u1) (me_var (i := 0)) (me_int)) (nomark _)))) (by decide)) (ma_nil)))))
theorem sc3 : FnScope ["mine", "yours", "known", "pair"] ["mine", "yours", "known"] (defScope s3) := ⟨rfl, rfl, rfl, by decide +kernel, rfl, by decide +kernel, by decide +kernel⟩
theorem ok_kept_of (E : Env K mg) : FnM P w K mg base (Gb K) 2 (He.ga K "kept_of") 3 m_kept_of := by
  have sc := sc3
  obtain ⟨fd, D⟩ := E.D3
  exact FnM.of D sc (fun _ _ _ _ _ _ us hl => match us, hl with | [_, _, _], _ => rfl) (fun cdv A outer s H E0 hr =>
  mss_one (ms_ret (me_lc (own := [("pair", 3)]) (.inl rfl) rfl sc.nd (mi_val (me_var (i := 0))) (blkOk_by (by kernel_rfl)) (fun _ _ _ _ _ => mg_name sc.nd) (fun _ _ _ _ _ => mts_one (MW.mt (mw_or (mt_cmp (om_in hr.u65) (me_var (i := 3)) (me_var (i := 1)) (by with_unfolding_all rfl)) (mw_or1 (mt_not (mt_tru (me_call (FnM.mono (ok_is_within E) (by decide)) hr tk0 rfl E.g_is_within (ma_cons (me_ix (om_ix hr.u1) (me_var (i := 3)) (me_int)) (ma_cons (me_var (i := 2)) (ma_nil))) (al_cons (al_cons al_nil))))))))) (fun _ _ _ _ _ => me_var (i := 3)) (by decide))))
theorem sc4 : FnScope ["mine", "my_known", "yours", "your_known", "found", "pair"] ["mine", "my_known", "yours", "your_known"] (defScope s4) := ⟨rfl, rfl, rfl, by decide +kernel, rfl, by decide +kernel, by decide +kernel⟩
theorem ok_marked_together (E : Env K mg) : FnM P w K mg base (Gb K) 3 (He.ga K "marked_together") 4 m_marked_together := by
  have sc := sc4
  obtain ⟨fd, D⟩ := E.D4
  exact FnM.of D sc (fun _ _ _ _ _ _ us hl => match us, hl with | [_, _, _, _], _ => rfl) (fun cdv A outer s H E0 hr =>
  mss_cons (ms_set (i := 4) sc.nd (me_call (FnM.mono (ok_kept_of E) (by decide)) hr (takes_of rfl rfl rfl rfl) rfl E.g_kept_of (ma_cons (me_var (i := 0)) (ma_cons (me_var (i := 2)) (ma_cons (me_var (i := 3)) (ma_nil)))) (al_cons (al_cons (al_cons al_nil)))))
  (mss_cons (ms_set (i := 4) sc.nd (me_op om_add (me_var (i := 4)) (me_lc (own := [("pair", 5)]) (.inl rfl) rfl sc.nd (mi_val (me_call (FnM.mono (ok_kept_of E) (by decide)) hr (takes_of rfl rfl rfl rfl) rfl E.g_kept_of (ma_cons (me_var (i := 2)) (ma_cons (me_var (i := 0)) (ma_cons (me_var (i := 1)) (ma_nil)))) (al_cons (al_cons (al_cons al_nil))))) (blkOk_by (by kernel_rfl)) (fun _ _ _ _ _ => mg_name sc.nd) (fun _ _ _ _ _ => mts_one (mt_cmp (om_notIn hr.u65) (me_var (i := 5)) (me_var (i := 4)) (by with_unfolding_all rfl))) (fun _ _ _ _ _ => me_var (i := 5)) (by decide))))
  (mss_one (ms_ret (me_biT cm_tuple rfl E.n_tuple PyProof.Rows.boot_tuple (ma_cons (me_bi (cm_sorted hr.u200 rfl) rfl E.n_sorted PyProof.Rows.boot_sorted (ma_cons (me_var (i := 4)) (ma_nil))) (ma_nil)))))))
theorem sc5 : FnScope ["one", "other", "known", "names"] ["one", "other"] (defScope s5) := ⟨rfl, rfl, rfl, by decide +kernel, rfl, by decide +kernel, by decide +kernel⟩
theorem ok_put_together (E : Env K mg) : FnM P w K mg base (Gb K) 4 (He.ga K "put_together") 2 m_put_together := by
  have sc := sc5
  obtain ⟨fd, D⟩ := E.D5
  exact FnM.of D sc (fun _ _ _ _ _ _ us hl => match us, hl with | [_, _], _ => rfl) (fun cdv A outer s H E0 hr =>
  mss_cons (ms_set (i := 2) sc.nd (me_call (FnM.mono (ok_known_together E) (by decide)) hr (takes_of rfl rfl rfl rfl) rfl E.g_known_together (ma_cons (me_ix (om_ix hr.u1) (me_var (i := 0)) (me_int)) (ma_cons (me_ix (om_ix hr.u1) (me_var (i := 1)) (me_int)) (ma_nil))) (al_cons (al_cons al_nil))))
  (mss_cons (ms_set (i := 3) sc.nd (me_call (FnM.mono (ok_marked_together E) (by decide)) hr (takes_of rfl rfl rfl rfl) rfl E.g_marked_together (ma_cons (me_ix (om_ix hr.u1) (me_var (i := 0)) (me_int)) (ma_cons (me_ix (om_ix hr.u1) (me_var (i := 0)) (me_int)) (ma_cons (me_ix (om_ix hr.u1) (me_var (i := 1)) (me_int)) (ma_cons (me_ix (om_ix hr.u1) (me_var (i := 1)) (me_int)) (ma_nil))))) (al_cons (al_cons (al_cons (al_cons al_nil))))))
  (mss_one (ms_ret (me_tup (ma_cons (me_ix (om_ix hr.u1) (me_var (i := 0)) (me_int)) (ma_cons (me_ix (om_ix hr.u1) (me_var (i := 0)) (me_int)) (ma_cons (me_var (i := 2)) (ma_cons (me_var (i := 3)) (ma_cons (me_call (FnM.mono (ok_marked_together E) (by decide)) hr (takes_of rfl rfl rfl rfl) rfl E.g_marked_together (ma_cons (me_ix (om_ix hr.u1) (me_var (i := 0)) (me_int)) (ma_cons (me_ix (om_ix hr.u1) (me_var (i := 0)) (me_int)) (ma_cons (me_ix (om_ix hr.u1) (me_var (i := 1)) (me_int)) (ma_cons (me_ix (om_ix hr.u1) (me_var (i := 1)) (me_int)) (ma_nil))))) (al_cons (al_cons (al_cons (al_cons al_nil))))) (ma_nil)))))))))))
theorem sc6 : FnScope ["self", "file", "which", "before"] ["self", "file"] (defScope s6) := ⟨rfl, rfl, rfl, by decide +kernel, rfl, by decide +kernel, by decide +kernel⟩
theorem ok_House_take (E : Env K mg) : FnM P w K mg base (Gb K) 5 (He.ma K (He.ga K "House") "take") 2 m_House_take := by
  have sc := sc6
  obtain ⟨fd, D⟩ := E.D6
  exact FnM.of D sc (fun _ _ _ _ _ _ us hl => match us, hl with | [_, _], _ => rfl) (fun cdv A outer s H E0 hr =>
  mss_cons (ms_set (i := 2) sc.nd (me_ix (om_ix hr.u1) (me_var (i := 1)) (me_int)))
  (mss_cons (ms_set (i := 3) sc.nd (me_get2 hr.u1 (me_fld (me_var (i := 0)) rfl E.c_House E.na_House_shelf nd_House rfl) (me_var (i := 2)) (me_non)))
  (mss_cons (ms_if (mt_cmp om_isNot (me_var (i := 3)) (me_non) (nomark _)) (mss_one (ms_set (i := 1) sc.nd (me_call (FnM.mono (ok_put_together E) (by decide)) hr (takes_of rfl rfl rfl rfl) rfl E.g_put_together (ma_cons (me_var (i := 3)) (ma_cons (me_var (i := 1)) (ma_nil))) (al_cons (al_cons al_nil))))) (mss_nil))
  (mss_cons (ms_sub hr.u1 (me_fld (me_var (i := 0)) rfl E.c_House E.na_House_shelf nd_House rfl) (me_var (i := 2)) (me_var (i := 1)))
  (mss_one (ms_ret (me_cmp (om_ne hr.units) (me_var (i := 1)) (me_var (i := 3)) (nomark _))))))))
theorem sc7 : FnScope ["self", "to", "which", "file"] ["self"] (defScope s7) := ⟨rfl, rfl, rfl, by decide +kernel, rfl, by decide +kernel, by decide +kernel⟩
theorem ok_Meeting_step (E : Env K mg) : FnM P w K mg base (Gb K) 6 (He.ma K (He.ga K "Meeting") "step") 1 m_Meeting_step := by
  have sc := sc7
  obtain ⟨fd, D⟩ := E.D7
  exact FnM.of D sc (fun _ _ _ _ _ _ us hl => match us, hl with | [_], _ => rfl) (fun cdv A outer s H E0 hr =>
  mss_cons (ms_if (mt_not (mt_tru (me_fld (me_var (i := 0)) rfl E.c_Meeting E.na_Meeting_left nd_Meeting rfl))) (mss_one (ms_ret (me_non))) (mss_nil))
  (mss_cons (ms_asg (me_bm (T := .list) mm_pop PySem.F.plainAttrs_list PySem.F.slot_list_pop PySem.F.type_list_pop (me_fld (me_var (i := 0)) rfl E.c_Meeting E.na_Meeting_left nd_Meeting rfl) (ma_cons (me_int) (ma_nil))) (mg_tup rfl (mgs_cons (mg_name sc.nd) (mgs_cons (mg_name sc.nd) (mgs_nil)))))
  (mss_cons (ms_set (i := 3) sc.nd (me_non))
  (mss_cons (ms_try (x := "NoFile") (cv := .ref (He.ga K "NoFile")) (hs := [none, some true, some false, some false, none]) rfl rfl ⟨rfl, by decide, .inl E.g_NoFile⟩ (takes_of rfl rfl rfl rfl) (by exact ⟨⟨_, rfl, E.em_NoFile_NoFile⟩, ⟨⟨_, rfl, E.em_NoName_NoFile⟩, ⟨⟨_, rfl, E.em_NoWords_NoFile⟩, trivial⟩⟩⟩) (fun W1 _ _ tk1 _ => mss_one (ms_set (i := 3) sc.nd (me_meth (me_ix (om_ix hr.u1) (me_fld (me_var (i := 0)) rfl E.c_Meeting E.na_Meeting_houses nd_Meeting rfl) (me_op om_sub (me_int) (me_var (i := 1)))) rfl E.c_House E.m_House_file nf_House_file (FnM.mono (ok_House_file E) (by decide)) hr tk1 (ma_cons (me_var (i := 2)) (ma_nil)) (al_cons al_nil)))) (fun _ _ _ _ _ _ _ => mss_one (ms_set (i := 3) sc.nd (me_non))))
  (mss_cons (ms_if (mt_cmp om_isNot (me_var (i := 3)) (me_non) (nomark _)) (mss_one (ms_expr (me_meth (me_ix (om_ix hr.u1) (me_fld (me_var (i := 0)) rfl E.c_Meeting E.na_Meeting_houses nd_Meeting rfl) (me_var (i := 1))) rfl E.c_House E.m_House_take nf_House_take (FnM.mono (ok_House_take E) (by decide)) hr (takes_of rfl rfl rfl rfl) (ma_cons (me_var (i := 3)) (ma_nil)) (al_cons al_nil)))) (mss_nil))
  (mss_one (ms_ret (me_tup (ma_cons (me_var (i := 1)) (ma_cons (me_var (i := 2)) (ma_nil)))))))))))
theorem sc8 : FnScope ["self", "many"] ["self"] (defScope s8) := ⟨rfl, rfl, rfl, by decide +kernel, rfl, by decide +kernel, by decide +kernel⟩
theorem ok_Meeting_rest (E : Env K mg) : FnM P w K mg base (Gb K) 7 (He.ma K (He.ga K "Meeting") "rest") 1 m_Meeting_rest := by
  have sc := sc8
  obtain ⟨fd, D⟩ := E.D8
  exact FnM.of D sc (fun _ _ _ _ _ _ us hl => match us, hl with | [_], _ => rfl) (fun cdv A outer s H E0 hr =>
  mss_cons (ms_set (i := 1) sc.nd (me_int))
  (mss_cons (ms_while 100000 (passes_of rfl) (mt_cmp om_isNot (me_meth0 (me_var (i := 0)) rfl E.c_Meeting E.m_Meeting_step nf_Meeting_step (FnM.mono (ok_Meeting_step E) (by decide)) hr (takes_of rfl rfl rfl rfl)) (me_non) (nomark _)) (mss_one (ms_set (i := 1) sc.nd (me_op om_add (me_var (i := 1)) (me_int)))))
  (mss_one (ms_ret (me_var (i := 1))))))
theorem sc9 : FnScope ["file"] ["file"] (defScope s9) := ⟨rfl, rfl, rfl, by decide +kernel, rfl, by decide +kernel, by decide +kernel⟩
theorem ok_is_gone (E : Env K mg) : FnM P w K mg base (Gb K) 1 (He.ga K "is_gone") 1 m_is_gone := by
  have sc := sc9
  obtain ⟨fd, D⟩ := E.D9
  exact FnM.of D sc (fun _ _ _ _ _ _ us hl => match us, hl with | [_], _ => rfl) (fun cdv A outer s H E0 hr =>
  mss_one (ms_ret (me_cmp (om_eq hr.units) (me_bi cm_len rfl E.n_len boot_len (ma_cons (me_ix (om_ix hr.u1) (me_var (i := 0)) (me_int)) (ma_nil))) (me_int) (nomark _))))
theorem sc10 : FnScope ["self", "which"] ["self", "which"] (defScope s10) := ⟨rfl, rfl, rfl, by decide +kernel, rfl, by decide +kernel, by decide +kernel⟩
theorem ok_House_there (E : Env K mg) : FnM P w K mg base (Gb K) 2 (He.ma K (He.ga K "House") "there") 2 m_House_there := by
  have sc := sc10
  obtain ⟨fd, D⟩ := E.D10
  exact FnM.of D sc (fun _ _ _ _ _ _ us hl => match us, hl with | [_, _], _ => rfl) (fun cdv A outer s H E0 hr =>
  mss_cons (ms_if (MW.mt (mw_or (mt_cmp (om_notIn hr.u65) (me_var (i := 1)) (me_fld (me_var (i := 0)) rfl E.c_House E.na_House_shelf nd_House rfl) (by with_unfolding_all rfl)) (mw_or1 (mt_tru (me_call (FnM.mono (ok_is_gone E) (by decide)) hr (takes_of rfl rfl rfl rfl) rfl E.g_is_gone (ma_cons (me_ix (om_ix hr.u1) (me_fld (me_var (i := 0)) rfl E.c_House E.na_House_shelf nd_House rfl) (me_var (i := 1))) (ma_nil)) (al_cons al_nil)))))) (mss_one (ms_raise rfl (takes_of rfl rfl rfl rfl) PySem.F.excBase_ValueError E.x_NoFile rfl E.g_NoFile E.k_NoFile (raises_own E.sb_NoFile E.ty_NoFile) rfl)) (mss_nil))
  (mss_one (ms_ret (me_ix (om_ix hr.u1) (me_fld (me_var (i := 0)) rfl E.c_House E.na_House_shelf nd_House rfl) (me_var (i := 1))))))
theorem sc11 : FnScope ["thing"] ["thing"] (defScope s11) := ⟨rfl, rfl, rfl, by decide +kernel, rfl, by decide +kernel, by decide +kernel⟩
theorem ok_is_text (E : Env K mg) : FnM P w K mg base (Gb K) 1 (He.ga K "is_text") 1 m_is_text := by
  have sc := sc11
  obtain ⟨fd, D⟩ := E.D11
  exact FnM.of D sc (fun _ _ _ _ _ _ us hl => match us, hl with | [_], _ => rfl) (fun cdv A outer s H E0 hr =>
  mss_one (ms_ret (me_and (me_bi cm_isi rfl E.n_isinstance PyProof.Rows.boot_isinstance (ma_cons (me_var (i := 0)) (ma_cons (me_ty rfl E.n_str PyProof.Rows.boot_str) (ma_nil)))) (me_one (me_cmp om_le (me_bi cm_len rfl E.n_len boot_len (ma_cons (me_var (i := 0)) (ma_nil))) (me_int) (nomark _))))))
theorem sc12 : FnScope ["self", "text"] ["self", "text"] (defScope s12) := ⟨rfl, rfl, rfl, by decide +kernel, rfl, by decide +kernel, by decide +kernel⟩
theorem ok_House_must_be_text (E : Env K mg) : FnM P w K mg base (Gb K) 2 (He.ma K (He.ga K "House") "must_be_text") 2 m_House_must_be_text := by
  have sc := sc12
  obtain ⟨fd, D⟩ := E.D12
  exact FnM.of D sc (fun _ _ _ _ _ _ us hl => match us, hl with | [_, _], _ => rfl) (fun cdv A outer s H E0 hr =>
  mss_one (ms_if (mt_not (mt_tru (me_call (FnM.mono (ok_is_text E) (by decide)) hr (takes_of rfl rfl rfl rfl) rfl E.g_is_text (ma_cons (me_var (i := 1)) (ma_nil)) (al_cons al_nil)))) (mss_one (ms_raise rfl (takes_of rfl rfl rfl rfl) PySem.F.excBase_ValueError E.x_NoWords rfl E.g_NoWords E.k_NoWords (raises_own E.sb_NoWords E.ty_NoWords) rfl)) (mss_nil)))
theorem sc13 : FnScope ["self"] ["self"] (defScope s13) := ⟨rfl, rfl, rfl, by decide +kernel, rfl, by decide +kernel, by decide +kernel⟩
theorem ok_House_next_mark (E : Env K mg) : FnM P w K mg base (Gb K) 1 (He.ma K (He.ga K "House") "next_mark") 1 m_House_next_mark := by
  have sc := sc13
  obtain ⟨fd, D⟩ := E.D13
  exact FnM.of D sc (fun _ _ _ _ _ _ us hl => match us, hl with | [_], _ => rfl) (fun cdv A outer s H E0 hr =>
  mss_cons (ms_fld (me_var (i := 0)) (me_op om_add (me_fld (me_var (i := 0)) rfl E.c_House E.na_House_acts nd_House rfl) (me_int)) rfl E.c_House E.na_House_acts nd_House rfl)
  (mss_one (ms_ret (me_tup (ma_cons (me_fld (me_var (i := 0)) rfl E.c_House E.na_House_own nd_House rfl) (ma_cons (me_fld (me_var (i := 0)) rfl E.c_House E.na_House_acts nd_House rfl) (ma_nil)))))))
theorem sc14 : FnScope ["self", "which", "text", "file", "mark"] ["self", "which", "text"] (defScope s14) := ⟨rfl, rfl, rfl, by decide +kernel, rfl, by decide +kernel, by decide +kernel⟩
theorem ok_House_write (E : Env K mg) : FnM P w K mg base (Gb K) 3 (He.ma K (He.ga K "House") "write") 3 m_House_write := by
  have sc := sc14
  obtain ⟨fd, D⟩ := E.D14
  exact FnM.of D sc (fun _ _ _ _ _ _ us hl => match us, hl with | [_, _, _], _ => rfl) (fun cdv A outer s H E0 hr =>
  mss_cons (ms_set (i := 3) sc.nd (me_meth (me_var (i := 0)) rfl E.c_House E.m_House_there nf_House_there (FnM.mono (ok_House_there E) (by decide)) hr (takes_of rfl rfl rfl rfl) (ma_cons (me_var (i := 1)) (ma_nil)) (al_cons al_nil)))
  (mss_cons (ms_expr (me_meth (me_var (i := 0)) rfl E.c_House E.m_House_must_be_text nf_House_must_be_text (FnM.mono (ok_House_must_be_text E) (by decide)) hr (takes_of rfl rfl rfl rfl) (ma_cons (me_var (i := 2)) (ma_nil)) (al_cons al_nil)))
  (mss_cons (ms_set (i := 4) sc.nd (me_meth0 (me_var (i := 0)) rfl E.c_House E.m_House_next_mark nf_House_next_mark (FnM.mono (ok_House_next_mark E) (by decide)) hr (takes_of rfl rfl rfl rfl)))
  (mss_one (ms_sub hr.u1 (me_fld (me_var (i := 0)) rfl E.c_House E.na_House_shelf nd_House rfl) (me_var (i := 1)) (me_tup (ma_cons (me_var (i := 1)) (ma_cons (me_ix (om_ix hr.u1) (me_var (i := 3)) (me_int)) (ma_cons (me_call (FnM.mono (ok_known_together E) (by decide)) hr (takes_of rfl rfl rfl rfl) rfl E.g_known_together (ma_cons (me_ix (om_ix hr.u1) (me_var (i := 3)) (me_int)) (ma_cons (me_tup (ma_cons (me_var (i := 4)) (ma_nil))) (ma_nil))) (al_cons (al_cons al_nil))) (ma_cons (me_ix (om_ix hr.u1) (me_var (i := 3)) (me_int)) (ma_cons (me_tup (ma_cons (me_tup (ma_cons (me_var (i := 4)) (ma_cons (me_var (i := 2)) (ma_nil)))) (ma_nil))) (ma_nil))))))))))))
theorem sc15 : FnScope ["thing", "sign"] ["thing"] (defScope s15) := ⟨rfl, rfl, rfl, by decide +kernel, rfl, by decide +kernel, by decide +kernel⟩
theorem ok_is_name (E : Env K mg) : FnM P w K mg base (Gb K) 1 (He.ga K "is_name") 1 m_is_name := by
  have sc := sc15
  obtain ⟨fd, D⟩ := E.D15
  exact FnM.of D sc (fun _ _ _ _ _ _ us hl => match us, hl with | [_], _ => rfl) (fun cdv A outer s H E0 hr =>
  mss_one (ms_ret (me_and (me_bi cm_isi rfl E.n_isinstance PyProof.Rows.boot_isinstance (ma_cons (me_var (i := 0)) (ma_cons (me_ty rfl E.n_str PyProof.Rows.boot_str) (ma_nil)))) (me_and (me_chain om_le om_le (me_int) (me_bi cm_len rfl E.n_len boot_len (ma_cons (me_var (i := 0)) (ma_nil))) (me_int)) (me_one (me_bi (cm_all rfl) rfl E.n_all PyProof.Rows.boot_all (ma_cons (me_lc (own := [("sign", 1)]) (.inl rfl) rfl sc.nd (mi_val (me_var (i := 0))) (blkOk_by (by kernel_rfl)) (fun _ _ _ _ _ => mg_name sc.nd) (fun _ _ _ _ _ => mts_nil) (fun _ _ _ _ _ => me_cmp (om_in hr.u65) (me_var (i := 1)) (me_gstr rfl E.LETTERS.choose_spec) (by with_unfolding_all rfl)) (by decide)) (ma_nil))))))))
theorem sc16 : FnScope ["self", "name"] ["self", "name"] (defScope s16) := ⟨rfl, rfl, rfl, by decide +kernel, rfl, by decide +kernel, by decide +kernel⟩
theorem ok_House_must_be_name (E : Env K mg) : FnM P w K mg base (Gb K) 2 (He.ma K (He.ga K "House") "must_be_name") 2 m_House_must_be_name := by
  have sc := sc16
  obtain ⟨fd, D⟩ := E.D16
  exact FnM.of D sc (fun _ _ _ _ _ _ us hl => match us, hl with | [_, _], _ => rfl) (fun cdv A outer s H E0 hr =>
  mss_one (ms_if (mt_not (mt_tru (me_call (FnM.mono (ok_is_name E) (by decide)) hr (takes_of rfl rfl rfl rfl) rfl E.g_is_name (ma_cons (me_var (i := 1)) (ma_nil)) (al_cons al_nil)))) (mss_one (ms_raise rfl (takes_of rfl rfl rfl rfl) PySem.F.excBase_ValueError E.x_NoName rfl E.g_NoName E.k_NoName (raises_own E.sb_NoName E.ty_NoName) rfl)) (mss_nil)))
theorem sc17 : FnScope ["self", "which", "name", "file", "mark"] ["self", "which", "name"] (defScope s17) := ⟨rfl, rfl, rfl, by decide +kernel, rfl, by decide +kernel, by decide +kernel⟩
theorem ok_House_rename (E : Env K mg) : FnM P w K mg base (Gb K) 3 (He.ma K (He.ga K "House") "rename") 3 m_House_rename := by
  have sc := sc17
  obtain ⟨fd, D⟩ := E.D17
  exact FnM.of D sc (fun _ _ _ _ _ _ us hl => match us, hl with | [_, _, _], _ => rfl) (fun cdv A outer s H E0 hr =>
  mss_cons (ms_set (i := 3) sc.nd (me_meth (me_var (i := 0)) rfl E.c_House E.m_House_there nf_House_there (FnM.mono (ok_House_there E) (by decide)) hr (takes_of rfl rfl rfl rfl) (ma_cons (me_var (i := 1)) (ma_nil)) (al_cons al_nil)))
  (mss_cons (ms_expr (me_meth (me_var (i := 0)) rfl E.c_House E.m_House_must_be_name nf_House_must_be_name (FnM.mono (ok_House_must_be_name E) (by decide)) hr (takes_of rfl rfl rfl rfl) (ma_cons (me_var (i := 2)) (ma_nil)) (al_cons al_nil)))
  (mss_cons (ms_set (i := 4) sc.nd (me_meth0 (me_var (i := 0)) rfl E.c_House E.m_House_next_mark nf_House_next_mark (FnM.mono (ok_House_next_mark E) (by decide)) hr (takes_of rfl rfl rfl rfl)))
  (mss_one (ms_sub hr.u1 (me_fld (me_var (i := 0)) rfl E.c_House E.na_House_shelf nd_House rfl) (me_var (i := 1)) (me_tup (ma_cons (me_var (i := 1)) (ma_cons (me_ix (om_ix hr.u1) (me_var (i := 3)) (me_int)) (ma_cons (me_call (FnM.mono (ok_known_together E) (by decide)) hr (takes_of rfl rfl rfl rfl) rfl E.g_known_together (ma_cons (me_ix (om_ix hr.u1) (me_var (i := 3)) (me_int)) (ma_cons (me_tup (ma_cons (me_var (i := 4)) (ma_nil))) (ma_nil))) (al_cons (al_cons al_nil))) (ma_cons (me_tup (ma_cons (me_tup (ma_cons (me_var (i := 4)) (ma_cons (me_var (i := 2)) (ma_nil)))) (ma_nil))) (ma_cons (me_ix (om_ix hr.u1) (me_var (i := 3)) (me_int)) (ma_nil))))))))))))
theorem sc18 : FnScope ["_law_house", "_law_number", "_law_many", "_law_which", "_law_bits", "_law_words", "_law_names", "_law_texts"] ["_law_house", "_law_number", "_law_many", "_law_which", "_law_bits", "_law_words"] (defScope s18) := ⟨rfl, rfl, rfl, by decide +kernel, rfl, by decide +kernel, by decide +kernel⟩
theorem ok_law_change (E : Env K mg) : FnM P w K mg base (Gb K) 4 (He.ga K "_law_change") 6 m_law_change := by
  have sc := sc18
  obtain ⟨fd, D⟩ := E.D18
  exact FnM.of D sc (fun _ _ _ _ _ _ us hl => match us, hl with | [_, _, _, _, _, _], _ => rfl) (fun cdv A outer s H E0 hr =>
  mss_cons (ms_set (i := 6) sc.nd (me_tup (ma_nil)))
  (mss_cons (ms_set (i := 7) sc.nd (me_tup (ma_nil)))
  (mss_cons (ms_if (mt_cmp (om_eq hr.units) (me_op om_mod (me_var (i := 4)) (me_int)) (me_int) (nomark _)) (mss_cons (ms_set (i := 2) sc.nd (me_op om_add (me_var (i := 2)) (me_int)))
  (mss_cons (ms_expr (me_meth (me_var (i := 0)) rfl E.c_House E.m_House_write nf_House_write (FnM.mono (ok_House_write E) (by decide)) hr (takes_of rfl rfl rfl rfl) (ma_cons (me_var (i := 3)) (ma_cons (me_ix (om_ix hr.u1) (me_var (i := 5)) (me_int)) (ma_nil))) (al_cons (al_cons al_nil))))
  (mss_one (ms_set (i := 7) sc.nd (me_tup (ma_cons (me_tup (ma_cons (me_tup (ma_cons (me_var (i := 1)) (ma_cons (me_var (i := 2)) (ma_nil)))) (ma_cons (me_ix (om_ix hr.u1) (me_var (i := 5)) (me_int)) (ma_nil)))) (ma_nil))))))) (mss_nil))
  (mss_cons (ms_if (mt_cmp (om_eq hr.units) (me_op om_fdiv (me_var (i := 4)) (me_int)) (me_int) (nomark _)) (mss_cons (ms_set (i := 2) sc.nd (me_op om_add (me_var (i := 2)) (me_int)))
  (mss_cons (ms_expr (me_meth (me_var (i := 0)) rfl E.c_House E.m_House_rename nf_House_rename (FnM.mono (ok_House_rename E) (by decide)) hr (takes_of rfl rfl rfl rfl) (ma_cons (me_var (i := 3)) (ma_cons (me_ix (om_ix hr.u1) (me_var (i := 5)) (me_int)) (ma_nil))) (al_cons (al_cons al_nil))))
  (mss_one (ms_set (i := 6) sc.nd (me_tup (ma_cons (me_tup (ma_cons (me_tup (ma_cons (me_var (i := 1)) (ma_cons (me_var (i := 2)) (ma_nil)))) (ma_cons (me_ix (om_ix hr.u1) (me_var (i := 5)) (me_int)) (ma_nil)))) (ma_nil))))))) (mss_nil))
  (mss_one (ms_ret (me_tup (ma_cons (me_var (i := 2)) (ma_cons (me_var (i := 6)) (ma_cons (me_var (i := 7)) (ma_nil)))))))))))
theorem sc19 : FnScope ["_law_cell_here", "_law_prime", "_law_many"] ["_law_cell_here", "_law_prime", "_law_many"] (defScope s19) := ⟨rfl, rfl, rfl, by decide +kernel, rfl, by decide +kernel, by decide +kernel⟩
theorem ok_law_mix (E : Env K mg) : FnM P w K mg base (Gb K) 1 (He.ga K "_law_mix") 3 m_law_mix := by
  have sc := sc19
  obtain ⟨fd, D⟩ := E.D19
  exact FnM.of D sc (fun _ _ _ _ _ _ us hl => match us, hl with | [_, _, _], _ => rfl) (fun cdv A outer s H E0 hr =>
  mss_one (ms_ret (me_op om_mod (me_op om_mod (me_op om_mul (me_var (i := 0)) (me_int)) (me_var (i := 1))) (me_var (i := 2)))))
theorem sc20 : FnScope ["self", "which", "file"] ["self", "which"] (defScope s20) := ⟨rfl, rfl, rfl, by decide +kernel, rfl, by decide +kernel, by decide +kernel⟩
theorem ok_House_drop (E : Env K mg) : FnM P w K mg base (Gb K) 3 (He.ma K (He.ga K "House") "drop") 2 m_House_drop := by
  have sc := sc20
  obtain ⟨fd, D⟩ := E.D20
  exact FnM.of D sc (fun _ _ _ _ _ _ us hl => match us, hl with | [_, _], _ => rfl) (fun cdv A outer s H E0 hr =>
  mss_cons (ms_set (i := 2) sc.nd (me_meth (me_var (i := 0)) rfl E.c_House E.m_House_there nf_House_there (FnM.mono (ok_House_there E) (by decide)) hr (takes_of rfl rfl rfl rfl) (ma_cons (me_var (i := 1)) (ma_nil)) (al_cons al_nil)))
  (mss_one (ms_sub hr.u1 (me_fld (me_var (i := 0)) rfl E.c_House E.na_House_shelf nd_House rfl) (me_var (i := 1)) (me_tup (ma_cons (me_var (i := 1)) (ma_cons (me_ix (om_ix hr.u1) (me_var (i := 2)) (me_int)) (ma_cons (me_call (FnM.mono (ok_known_together E) (by decide)) hr (takes_of rfl rfl rfl rfl) rfl E.g_known_together (ma_cons (me_ix (om_ix hr.u1) (me_var (i := 2)) (me_int)) (ma_cons (me_tup (ma_cons (me_meth0 (me_var (i := 0)) rfl E.c_House E.m_House_next_mark nf_House_next_mark (FnM.mono (ok_House_next_mark E) (by decide)) hr (takes_of rfl rfl rfl rfl)) (ma_nil))) (ma_nil))) (al_cons (al_cons al_nil))) (ma_cons (me_tup (ma_nil)) (ma_cons (me_tup (ma_nil)) (ma_nil))))))))))
theorem sc21 : FnScope ["_law_house", "_law_file", "_law_heard", "_law_mark", "_law_last_here", "_law_words"] ["_law_house", "_law_file", "_law_heard", "_law_mark", "_law_last_here", "_law_words"] (defScope s21) := ⟨rfl, rfl, rfl, by decide +kernel, rfl, by decide +kernel, by decide +kernel⟩
theorem ok_law_last (E : Env K mg) : FnM P w K mg base (Gb K) 4 (He.ga K "_law_last") 6 m_law_last := by
  have sc := sc21
  obtain ⟨fd, D⟩ := E.D21
  exact FnM.of D sc (fun _ _ _ _ _ _ us hl => match us, hl with | [_, _, _, _, _, _], _ => rfl) (fun cdv A outer s H E0 hr =>
  mss_cons (ms_if (mt_cmp (om_eq hr.units) (me_var (i := 4)) (me_int) (nomark _)) (mss_cons (ms_expr (me_meth (me_var (i := 0)) rfl E.c_House E.m_House_write nf_House_write (FnM.mono (ok_House_write E) (by decide)) hr (takes_of rfl rfl rfl rfl) (ma_cons (me_ix (om_ix hr.u1) (me_var (i := 1)) (me_int)) (ma_cons (me_ix (om_ix hr.u1) (me_var (i := 5)) (me_int)) (ma_nil))) (al_cons (al_cons al_nil))))
  (mss_one (ms_ret (me_tup (ma_cons (me_ix (om_ix hr.u1) (me_var (i := 1)) (me_int)) (ma_cons (me_ix (om_ix hr.u1) (me_var (i := 1)) (me_int)) (ma_cons (me_var (i := 2)) (ma_cons (me_ix (om_ix hr.u1) (me_var (i := 1)) (me_int)) (ma_cons (me_tup (ma_cons (me_tup (ma_cons (me_var (i := 3)) (ma_cons (me_ix (om_ix hr.u1) (me_var (i := 5)) (me_int)) (ma_nil)))) (ma_nil))) (ma_nil)))))))))) (mss_nil))
  (mss_cons (ms_if (mt_cmp (om_eq hr.units) (me_var (i := 4)) (me_int) (nomark _)) (mss_cons (ms_expr (me_meth (me_var (i := 0)) rfl E.c_House E.m_House_rename nf_House_rename (FnM.mono (ok_House_rename E) (by decide)) hr (takes_of rfl rfl rfl rfl) (ma_cons (me_ix (om_ix hr.u1) (me_var (i := 1)) (me_int)) (ma_cons (me_ix (om_ix hr.u1) (me_var (i := 5)) (me_int)) (ma_nil))) (al_cons (al_cons al_nil))))
  (mss_one (ms_ret (me_tup (ma_cons (me_ix (om_ix hr.u1) (me_var (i := 1)) (me_int)) (ma_cons (me_ix (om_ix hr.u1) (me_var (i := 1)) (me_int)) (ma_cons (me_var (i := 2)) (ma_cons (me_tup (ma_cons (me_tup (ma_cons (me_var (i := 3)) (ma_cons (me_ix (om_ix hr.u1) (me_var (i := 5)) (me_int)) (ma_nil)))) (ma_nil))) (ma_cons (me_ix (om_ix hr.u1) (me_var (i := 1)) (me_int)) (ma_nil)))))))))) (mss_nil))
  (mss_cons (ms_expr (me_meth (me_var (i := 0)) rfl E.c_House E.m_House_drop nf_House_drop (FnM.mono (ok_House_drop E) (by decide)) hr (takes_of rfl rfl rfl rfl) (ma_cons (me_ix (om_ix hr.u1) (me_var (i := 1)) (me_int)) (ma_nil)) (al_cons al_nil)))
  (mss_one (ms_ret (me_tup (ma_cons (me_ix (om_ix hr.u1) (me_var (i := 1)) (me_int)) (ma_cons (me_ix (om_ix hr.u1) (me_var (i := 1)) (me_int)) (ma_cons (me_var (i := 2)) (ma_cons (me_tup (ma_nil)) (ma_cons (me_tup (ma_nil)) (ma_nil))))))))))))
theorem sc22 : FnScope ["_law_cell_here", "_law_many", "_law_left", "_law_k"] ["_law_cell_here", "_law_many"] (defScope s22) := ⟨rfl, rfl, rfl, by decide +kernel, rfl, by decide +kernel, by decide +kernel⟩
theorem okr_law_perm (E : Env K mg) : FnM P w K mg base (Gb K) 2 (He.ga K "_law_perm") 2 m_law_perm := by
  have sc := sc22
  obtain ⟨fd, D⟩ := E.D22
  exact FnM.of D sc (fun _ _ _ _ _ _ us hl => match us, hl with | [_, _], _ => rfl) (fun cdv A outer s H E0 hr =>
  mss_cons (ms_set (i := 2) sc.nd (me_listRangeM rfl E.n_list E.n_range (me_var (i := 1))))
  (mss_one (ms_ret (me_lc (own := [("_law_k", 3)]) (.inl rfl) rfl sc.nd (mi_range1 rfl E.n_range (ma_cons (me_var (i := 1)) (ma_nil))) (blkOk_by (by kernel_rfl)) (fun _ _ _ _ _ => mg_name sc.nd) (fun _ _ _ _ _ => mts_nil) (fun _ _ _ _ _ => me_bm (T := .list) mm_pop PySem.F.plainAttrs_list PySem.F.slot_list_pop PySem.F.type_list_pop (me_var (i := 2)) (ma_cons (me_call (FnM.mono (ok_law_mix E) (by decide)) hr tk0 rfl E.g__law_mix (ma_cons (me_op om_add (me_var (i := 0)) (me_op om_mul (me_int) (me_var (i := 3)))) (ma_cons (me_int) (ma_cons (me_op om_sub (me_var (i := 1)) (me_var (i := 3))) (ma_nil)))) (al_cons (al_cons (al_cons al_nil)))) (ma_nil))) (by decide)))))
theorem ok_law_perm (E : Env K mg) : FnM P w K mg base (Gb K) 2 (He.ga K "_law_perm") 2 s_law_perm := (okr_law_perm E).le le_law_perm
theorem sc23 : FnScope ["self", "number"] ["self", "number"] (defScope s23) := ⟨rfl, rfl, rfl, by decide +kernel, rfl, by decide +kernel, by decide +kernel⟩
theorem ok_House_init (E : Env K mg) : FnM P w K mg base (Gb K) 1 (He.ma K (He.ga K "House") "__init__") 2 m_House_init := by
  have sc := sc23
  obtain ⟨fd, D⟩ := E.D23
  exact FnM.of D sc (fun _ _ _ _ _ _ us hl => match us, hl with | [_, _], _ => rfl) (fun cdv A outer s H E0 hr =>
  mss_cons (ms_fld (me_var (i := 0)) (me_var (i := 1)) rfl E.c_House E.na_House_own nd_House rfl)
  (mss_cons (ms_fld (me_var (i := 0)) (me_int) rfl E.c_House E.na_House_acts nd_House rfl)
  (mss_cons (ms_fld (me_var (i := 0)) (me_dictT) rfl E.c_House E.na_House_shelf nd_House rfl)
  (mss_one (ms_fld (me_var (i := 0)) (me_dictK) rfl E.c_House E.na_House_told nd_House rfl)))))
theorem sc24 : FnScope ["_law_found", "_law_due", "_law_one", "_law_other"] ["_law_found", "_law_due"] (defScope s24) := ⟨rfl, rfl, rfl, by decide +kernel, rfl, by decide +kernel, by decide +kernel⟩
theorem okr_law_same (E : Env K mg) : ∀ d : Nat, FnM P w K mg base (Gb K) (1 + d) (He.ga K "_law_same") 2 (m_law_same d)
  | 0 => by
    have sc := sc24
    obtain ⟨fd, D⟩ := E.D24
    exact FnM.mono (FnM.bad D sc (fun _ _ _ _ _ _ us hl => match us, hl with | [_, _], _ => rfl)) (Nat.zero_le _)
  | d + 1 => by
    have sc := sc24
    obtain ⟨fd, D⟩ := E.D24
    have ih := okr_law_same E d
    exact FnM.of (k := 1 + d) D sc (fun _ _ _ _ _ _ us hl => match us, hl with | [_, _], _ => rfl) (fun cdv A outer s H E0 hr =>
  mss_cons (ms_if (mt_tru (me_bi cm_isi rfl E.n_isinstance PyProof.Rows.boot_isinstance (ma_cons (me_var (i := 1)) (ma_cons (me_ty rfl E.n_tuple PyProof.Rows.boot_tuple) (ma_nil))))) (mss_cons (ms_if (MW.mt (mw_or (mt_not (mt_tru (me_bi cm_isi rfl E.n_isinstance PyProof.Rows.boot_isinstance (ma_cons (me_var (i := 0)) (ma_cons (me_ty rfl E.n_tuple PyProof.Rows.boot_tuple) (ma_nil)))))) (mw_or1 (mt_cmp (om_ne hr.units) (me_bi cm_len rfl E.n_len boot_len (ma_cons (me_var (i := 0)) (ma_nil))) (me_bi cm_len rfl E.n_len boot_len (ma_cons (me_var (i := 1)) (ma_nil))) (nomark _))))) (mss_one (ms_ret (me_bl))) (mss_nil))
  (mss_one (ms_ret (me_bi (cm_all rfl) rfl E.n_all PyProof.Rows.boot_all (ma_cons (me_lc (own := [("_law_one", 2), ("_law_other", 3)]) (.inl rfl) rfl sc.nd (mi_zip rfl E.n_zip (ma_cons (me_var (i := 0)) (ma_cons (me_var (i := 1)) (ma_nil)))) (blkOk_by (by kernel_rfl)) (fun _ _ _ _ _ => mg_tup rfl (mgs_cons (mg_name sc.nd) (mgs_cons (mg_name sc.nd) (mgs_nil)))) (fun _ _ _ _ _ => mts_nil) (fun _ _ _ _ _ => me_call (FnM.mono ih (by omega)) hr tk0 rfl E.g__law_same (ma_cons (me_var (i := 2)) (ma_cons (me_var (i := 3)) (ma_nil))) (al_cons (al_cons al_nil))) (by decide)) (ma_nil)))))) (mss_nil))
  (mss_cons (ms_if (mt_cmp om_is (me_var (i := 1)) (me_non) (nomark _)) (mss_one (ms_ret (me_cmp om_is (me_var (i := 0)) (me_non) (nomark _)))) (mss_nil))
  (mss_cons (ms_if (MW.mt (mw_or (mt_tru (me_bi cm_isi rfl E.n_isinstance PyProof.Rows.boot_isinstance (ma_cons (me_var (i := 1)) (ma_cons (me_ty rfl E.n_bool PyProof.Rows.boot_bool) (ma_nil))))) (mw_or1 (mt_tru (me_bi cm_isi rfl E.n_isinstance PyProof.Rows.boot_isinstance (ma_cons (me_var (i := 0)) (ma_cons (me_ty rfl E.n_bool PyProof.Rows.boot_bool) (ma_nil)))))))) (mss_one (ms_ret (me_and (me_bi cm_isi rfl E.n_isinstance PyProof.Rows.boot_isinstance (ma_cons (me_var (i := 1)) (ma_cons (me_ty rfl E.n_bool PyProof.Rows.boot_bool) (ma_nil)))) (me_and (me_bi cm_isi rfl E.n_isinstance PyProof.Rows.boot_isinstance (ma_cons (me_var (i := 0)) (ma_cons (me_ty rfl E.n_bool PyProof.Rows.boot_bool) (ma_nil)))) (me_one (me_cmp (om_eq hr.units) (me_var (i := 0)) (me_var (i := 1)) (nomark _))))))) (mss_nil))
  (mss_one (ms_ret (me_and (me_bi cm_isi rfl E.n_isinstance PyProof.Rows.boot_isinstance (ma_cons (me_var (i := 0)) (ma_cons (me_tup (ma_cons (me_ty rfl E.n_int PyProof.Rows.boot_int) (ma_cons (me_ty rfl E.n_str PyProof.Rows.boot_str) (ma_nil)))) (ma_nil)))) (me_one (me_cmp (om_eq hr.units) (me_var (i := 0)) (me_var (i := 1)) (nomark _)))))))))
theorem ok_law_same (E : Env K mg) : FnM P w K mg base (Gb K) 32 (He.ga K "_law_same") 2 s_law_same := (okr_law_same E 31).le le_law_same
theorem sc25 : FnScope ["_law_script", "_law_k"] ["_law_script", "_law_k"] (defScope s25) := ⟨rfl, rfl, rfl, by decide +kernel, rfl, by decide +kernel, by decide +kernel⟩
theorem ok_law_cell (E : Env K mg) : FnM P w K mg base (Gb K) 1 (He.ga K "_law_cell") 2 m_law_cell := by
  have sc := sc25
  obtain ⟨fd, D⟩ := E.D25
  exact FnM.of D sc (fun _ _ _ _ _ _ us hl => match us, hl with | [_, _], _ => rfl) (fun cdv A outer s H E0 hr =>
  mss_cons (ms_if (mt_cmp om_lt (me_var (i := 1)) (me_bi cm_len rfl E.n_len boot_len (ma_cons (me_var (i := 0)) (ma_nil))) (nomark _)) (mss_one (ms_ret (me_ix (om_ix hr.u1) (me_var (i := 0)) (me_var (i := 1))))) (mss_nil))
  (mss_one (ms_ret (me_int))))
theorem sc26 : FnScope ["_law_cell_here", "_law_signs", "_law_many", "_law_k"] ["_law_cell_here"] (defScope s26) := ⟨rfl, rfl, rfl, by decide +kernel, rfl, by decide +kernel, by decide +kernel⟩
theorem ok_law_text (E : Env K mg) : FnM P w K mg base (Gb K) 2 (He.ga K "_law_text") 1 m_law_text := by
  have sc := sc26
  obtain ⟨fd, D⟩ := E.D26
  exact FnM.of D sc (fun _ _ _ _ _ _ us hl => match us, hl with | [_], _ => rfl) (fun cdv A outer s H E0 hr =>
  mss_cons (ms_set (i := 1) sc.nd (me_str))
  (mss_cons (ms_set (i := 2) sc.nd (me_call (FnM.mono (ok_law_mix E) (by decide)) hr (takes_of rfl rfl rfl rfl) rfl E.g__law_mix (ma_cons (me_var (i := 0)) (ma_cons (me_int) (ma_cons (me_int) (ma_nil)))) (al_cons (al_cons (al_cons al_nil)))))
  (mss_cons (ms_if (mt_cmp (om_eq hr.units) (me_call (FnM.mono (ok_law_mix E) (by decide)) hr (takes_of rfl rfl rfl rfl) rfl E.g__law_mix (ma_cons (me_var (i := 0)) (ma_cons (me_int) (ma_cons (me_int) (ma_nil)))) (al_cons (al_cons (al_cons al_nil)))) (me_int) (nomark _)) (mss_one (ms_set (i := 2) sc.nd (me_int))) (mss_nil))
  (mss_cons (ms_if (mt_cmp (om_eq hr.units) (me_call (FnM.mono (ok_law_mix E) (by decide)) hr (takes_of rfl rfl rfl rfl) rfl E.g__law_mix (ma_cons (me_var (i := 0)) (ma_cons (me_int) (ma_cons (me_int) (ma_nil)))) (al_cons (al_cons (al_cons al_nil)))) (me_int) (nomark _)) (mss_one (ms_set (i := 2) sc.nd (me_call (FnM.mono (ok_law_mix E) (by decide)) hr (takes_of rfl rfl rfl rfl) rfl E.g__law_mix (ma_cons (me_var (i := 0)) (ma_cons (me_int) (ma_cons (me_int) (ma_nil)))) (al_cons (al_cons (al_cons al_nil)))))) (mss_nil))
  (mss_cons (ms_if (mt_cmp (om_eq hr.units) (me_op om_mod (me_var (i := 0)) (me_int)) (me_int) (nomark _)) (mss_one (ms_ret (me_ix (om_ix hr.u1) (me_tup (ma_cons (me_str) (ma_cons (me_str) (ma_cons (me_str) (ma_nil))))) (me_call (FnM.mono (ok_law_mix E) (by decide)) hr (takes_of rfl rfl rfl rfl) rfl E.g__law_mix (ma_cons (me_var (i := 0)) (ma_cons (me_int) (ma_cons (me_int) (ma_nil)))) (al_cons (al_cons (al_cons al_nil))))))) (mss_nil))
  (mss_one (ms_ret (me_bm (T := .str) mm_join PySem.F.plainAttrs_str PySem.F.slot_str_join PySem.F.type_str_join (me_str) (ma_cons (me_lc (own := [("_law_k", 3)]) (.inl rfl) rfl sc.nd (mi_range1 rfl E.n_range (ma_cons (me_var (i := 2)) (ma_nil))) (blkOk_by (by kernel_rfl)) (fun _ _ _ _ _ => mg_name sc.nd) (fun _ _ _ _ _ => mts_nil) (fun _ _ _ _ _ => me_ix (om_ix hr.u1) (me_var (i := 1)) (me_call (FnM.mono (ok_law_mix E) (by decide)) hr tk0 rfl E.g__law_mix (ma_cons (me_op om_add (me_var (i := 0)) (me_op om_mul (me_int) (me_var (i := 3)))) (ma_cons (me_int) (ma_cons (me_bi cm_len rfl E.n_len boot_len (ma_cons (me_var (i := 1)) (ma_nil))) (ma_nil)))) (al_cons (al_cons (al_cons al_nil))))) (by decide)) (ma_nil))))))))))
theorem sc27 : FnScope ["_law_cell_here", "_law_letters", "_law_many", "_law_k"] ["_law_cell_here"] (defScope s27) := ⟨rfl, rfl, rfl, by decide +kernel, rfl, by decide +kernel, by decide +kernel⟩
theorem ok_law_name (E : Env K mg) : FnM P w K mg base (Gb K) 2 (He.ga K "_law_name") 1 m_law_name := by
  have sc := sc27
  obtain ⟨fd, D⟩ := E.D27
  exact FnM.of D sc (fun _ _ _ _ _ _ us hl => match us, hl with | [_], _ => rfl) (fun cdv A outer s H E0 hr =>
  mss_cons (ms_set (i := 1) sc.nd (me_str))
  (mss_cons (ms_set (i := 2) sc.nd (me_op om_add (me_int) (me_call (FnM.mono (ok_law_mix E) (by decide)) hr (takes_of rfl rfl rfl rfl) rfl E.g__law_mix (ma_cons (me_var (i := 0)) (ma_cons (me_int) (ma_cons (me_int) (ma_nil)))) (al_cons (al_cons (al_cons al_nil))))))
  (mss_cons (ms_if (mt_cmp (om_eq hr.units) (me_op om_mod (me_var (i := 0)) (me_int)) (me_int) (nomark _)) (mss_cons (ms_set (i := 1) sc.nd (me_str))
  (mss_one (ms_set (i := 2) sc.nd (me_op om_add (me_int) (me_op om_mod (me_var (i := 2)) (me_int)))))) (mss_nil))
  (mss_one (ms_ret (me_bm (T := .str) mm_join PySem.F.plainAttrs_str PySem.F.slot_str_join PySem.F.type_str_join (me_str) (ma_cons (me_lc (own := [("_law_k", 3)]) (.inl rfl) rfl sc.nd (mi_range1 rfl E.n_range (ma_cons (me_var (i := 2)) (ma_nil))) (blkOk_by (by kernel_rfl)) (fun _ _ _ _ _ => mg_name sc.nd) (fun _ _ _ _ _ => mts_nil) (fun _ _ _ _ _ => me_ix (om_ix hr.u1) (me_var (i := 1)) (me_call (FnM.mono (ok_law_mix E) (by decide)) hr tk0 rfl E.g__law_mix (ma_cons (me_op om_add (me_var (i := 0)) (me_op om_mul (me_int) (me_var (i := 3)))) (ma_cons (me_int) (ma_cons (me_bi cm_len rfl E.n_len boot_len (ma_cons (me_var (i := 1)) (ma_nil))) (ma_nil)))) (al_cons (al_cons (al_cons al_nil))))) (by decide)) (ma_nil))))))))
theorem sc28 : FnScope ["self", "name", "text", "mark"] ["self", "name", "text"] (defScope s28) := ⟨rfl, rfl, rfl, by decide +kernel, rfl, by decide +kernel, by decide +kernel⟩
theorem ok_House_make (E : Env K mg) : FnM P w K mg base (Gb K) 3 (He.ma K (He.ga K "House") "make") 3 m_House_make := by
  have sc := sc28
  obtain ⟨fd, D⟩ := E.D28
  exact FnM.of D sc (fun _ _ _ _ _ _ us hl => match us, hl with | [_, _, _], _ => rfl) (fun cdv A outer s H E0 hr =>
  mss_cons (ms_expr (me_meth (me_var (i := 0)) rfl E.c_House E.m_House_must_be_name nf_House_must_be_name (FnM.mono (ok_House_must_be_name E) (by decide)) hr (takes_of rfl rfl rfl rfl) (ma_cons (me_var (i := 1)) (ma_nil)) (al_cons al_nil)))
  (mss_cons (ms_expr (me_meth (me_var (i := 0)) rfl E.c_House E.m_House_must_be_text nf_House_must_be_text (FnM.mono (ok_House_must_be_text E) (by decide)) hr (takes_of rfl rfl rfl rfl) (ma_cons (me_var (i := 2)) (ma_nil)) (al_cons al_nil)))
  (mss_cons (ms_set (i := 3) sc.nd (me_meth0 (me_var (i := 0)) rfl E.c_House E.m_House_next_mark nf_House_next_mark (FnM.mono (ok_House_next_mark E) (by decide)) hr (takes_of rfl rfl rfl rfl)))
  (mss_cons (ms_sub hr.u1 (me_fld (me_var (i := 0)) rfl E.c_House E.na_House_shelf nd_House rfl) (me_var (i := 3)) (me_tup (ma_cons (me_var (i := 3)) (ma_cons (me_var (i := 1)) (ma_cons (me_tup (ma_cons (me_var (i := 3)) (ma_nil))) (ma_cons (me_tup (ma_nil)) (ma_cons (me_tup (ma_cons (me_tup (ma_cons (me_var (i := 3)) (ma_cons (me_var (i := 2)) (ma_nil)))) (ma_nil))) (ma_nil))))))))
  (mss_one (ms_ret (me_var (i := 3))))))))
theorem sc29 : FnScope ["known", "other", "mark"] ["known", "other"] (defScope s29) := ⟨rfl, rfl, rfl, by decide +kernel, rfl, by decide +kernel, by decide +kernel⟩
theorem ok_has_heard (E : Env K mg) : FnM P w K mg base (Gb K) 2 (He.ga K "has_heard") 2 m_has_heard := by
  have sc := sc29
  obtain ⟨fd, D⟩ := E.D29
  exact FnM.of D sc (fun _ _ _ _ _ _ us hl => match us, hl with | [_, _], _ => rfl) (fun cdv A outer s H E0 hr =>
  mss_one (ms_ret (me_bi (cm_all rfl) rfl E.n_all PyProof.Rows.boot_all (ma_cons (me_lc (own := [("mark", 2)]) (.inl rfl) rfl sc.nd (mi_val (me_var (i := 1))) (blkOk_by (by kernel_rfl)) (fun _ _ _ _ _ => mg_name sc.nd) (fun _ _ _ _ _ => mts_nil) (fun _ _ _ _ _ => me_call (FnM.mono (ok_is_within E) (by decide)) hr tk0 rfl E.g_is_within (ma_cons (me_var (i := 2)) (ma_cons (me_var (i := 0)) (ma_nil))) (al_cons (al_cons al_nil))) (by decide)) (ma_nil)))))
theorem sc30 : FnScope ["self", "heard", "known", "which", "some", "file"] ["self", "heard"] (defScope s30) := ⟨rfl, rfl, rfl, by decide +kernel, rfl, by decide +kernel, by decide +kernel⟩
theorem ok_House_news_for (E : Env K mg) : FnM P w K mg base (Gb K) 3 (He.ma K (He.ga K "House") "news_for") 2 m_House_news_for := by
  have sc := sc30
  obtain ⟨fd, D⟩ := E.D30
  exact FnM.of D sc (fun _ _ _ _ _ _ us hl => match us, hl with | [_, _], _ => rfl) (fun cdv A outer s H E0 hr =>
  mss_cons (ms_set (i := 2) sc.nd (me_biT (cm_dictT rfl hr.u65) rfl E.n_dict PyProof.Rows.boot_dict (ma_cons (me_lc (own := [("which", 3), ("some", 4)]) (.inl rfl) rfl sc.nd (mi_val (me_var (i := 1))) (blkOk_by (by kernel_rfl)) (fun _ _ _ _ _ => mg_tup rfl (mgs_cons (mg_name sc.nd) (mgs_cons (mg_name sc.nd) (mgs_nil)))) (fun _ _ _ _ _ => mts_nil) (fun _ _ _ _ _ => me_tup (ma_cons (me_var (i := 3)) (ma_cons (me_var (i := 4)) (ma_nil)))) (by decide)) (ma_nil))))
  (mss_cons (ms_setLc (own := [("which", 3)]) (.inl rfl) rfl sc.nd rfl rfl rfl (mi_val (me_bi (cm_sorted hr.u200 rfl) rfl E.n_sorted PyProof.Rows.boot_sorted (ma_cons (me_fld (me_var (i := 0)) rfl E.c_House E.na_House_shelf nd_House rfl) (ma_nil)))) (blkOk_by (by kernel_rfl)) (fun _ _ _ _ _ => mg_name sc.nd) (fun _ _ _ _ _ => mts_nil) (fun _ _ _ _ _ => me_ix (om_ix hr.u1) (me_fld (me_var (i := 0)) rfl E.c_House E.na_House_shelf nd_House rfl) (me_var (i := 3))) (by decide))
  (mss_one (ms_ret (me_biT cm_tuple rfl E.n_tuple PyProof.Rows.boot_tuple (ma_cons (me_lc (own := [("file", 5)]) (.inl rfl) rfl sc.nd (mi_val (me_var (i := 4))) (blkOk_by (by kernel_rfl)) (fun _ _ _ _ _ => mg_name sc.nd) (fun _ _ _ _ _ => mts_one (mt_not (mt_tru (me_call (FnM.mono (ok_has_heard E) (by decide)) hr tk0 rfl E.g_has_heard (ma_cons (me_get2 hr.u1 (me_var (i := 2)) (me_ix (om_ix hr.u1) (me_var (i := 5)) (me_int)) (me_tup (ma_nil))) (ma_cons (me_ix (om_ix hr.u1) (me_var (i := 5)) (me_int)) (ma_nil))) (al_cons (al_cons al_nil)))))) (fun _ _ _ _ _ => me_var (i := 5)) (by decide)) (ma_nil)))))))
theorem sc31 : FnScope ["self", "which"] ["self"] (defScope s31) := ⟨rfl, rfl, rfl, by decide +kernel, rfl, by decide +kernel, by decide +kernel⟩
theorem ok_House_heard (E : Env K mg) : FnM P w K mg base (Gb K) 1 (He.ma K (He.ga K "House") "heard") 1 m_House_heard := by
  have sc := sc31
  obtain ⟨fd, D⟩ := E.D31
  exact FnM.of D sc (fun _ _ _ _ _ _ us hl => match us, hl with | [_], _ => rfl) (fun cdv A outer s H E0 hr =>
  mss_one (ms_ret (me_biT cm_tuple rfl E.n_tuple PyProof.Rows.boot_tuple (ma_cons (me_lc (own := [("which", 1)]) (.inl rfl) rfl sc.nd (mi_val (me_bi (cm_sorted hr.u200 rfl) rfl E.n_sorted PyProof.Rows.boot_sorted (ma_cons (me_fld (me_var (i := 0)) rfl E.c_House E.na_House_shelf nd_House rfl) (ma_nil)))) (blkOk_by (by kernel_rfl)) (fun _ _ _ _ _ => mg_name sc.nd) (fun _ _ _ _ _ => mts_nil) (fun _ _ _ _ _ => me_tup (ma_cons (me_var (i := 1)) (ma_cons (me_ix (om_ix hr.u1) (me_ix (om_ix hr.u1) (me_fld (me_var (i := 0)) rfl E.c_House E.na_House_shelf nd_House rfl) (me_var (i := 1))) (me_int)) (ma_nil)))) (by decide)) (ma_nil)))))
theorem sc32 : FnScope ["self", "one", "other", "some", "file", "which", "to"] ["self", "one", "other"] (defScope s32) := ⟨rfl, rfl, rfl, by decide +kernel, rfl, by decide +kernel, by decide +kernel⟩
theorem ok_Meeting_init (E : Env K mg) : FnM P w K mg base (Gb K) 4 (He.ma K (He.ga K "Meeting") "__init__") 3 m_Meeting_init := by
  have sc := sc32
  obtain ⟨fd, D⟩ := E.D32
  exact FnM.of D sc (fun _ _ _ _ _ _ us hl => match us, hl with | [_, _, _], _ => rfl) (fun cdv A outer s H E0 hr =>
  mss_cons (ms_fld (me_var (i := 0)) (me_tup (ma_cons (me_var (i := 1)) (ma_cons (me_var (i := 2)) (ma_nil)))) rfl E.c_Meeting E.na_Meeting_houses nd_Meeting rfl)
  (mss_cons (ms_setLc (own := [("file", 4)]) (.inl rfl) rfl sc.nd rfl rfl rfl (mi_val (me_meth (me_var (i := 2)) rfl E.c_House E.m_House_news_for nf_House_news_for (FnM.mono (ok_House_news_for E) (by decide)) hr (takes_of rfl rfl rfl rfl) (ma_cons (me_meth0 (me_var (i := 1)) rfl E.c_House E.m_House_heard nf_House_heard (FnM.mono (ok_House_heard E) (by decide)) hr (takes_of rfl rfl rfl rfl)) (ma_nil)) (al_cons al_nil))) (blkOk_by (by kernel_rfl)) (fun _ _ _ _ _ => mg_name sc.nd) (fun _ _ _ _ _ => mts_nil) (fun _ _ _ _ _ => me_tup (ma_cons (me_ix (om_ix hr.u1) (me_var (i := 4)) (me_int)) (ma_cons (me_int) (ma_nil)))) (by decide))
  (mss_cons (ms_set (i := 3) sc.nd (me_op om_add (me_var (i := 3)) (me_lc (own := [("file", 4)]) (.inl rfl) rfl sc.nd (mi_val (me_meth (me_var (i := 1)) rfl E.c_House E.m_House_news_for nf_House_news_for (FnM.mono (ok_House_news_for E) (by decide)) hr (takes_of rfl rfl rfl rfl) (ma_cons (me_meth0 (me_var (i := 2)) rfl E.c_House E.m_House_heard nf_House_heard (FnM.mono (ok_House_heard E) (by decide)) hr (takes_of rfl rfl rfl rfl)) (ma_nil)) (al_cons al_nil))) (blkOk_by (by kernel_rfl)) (fun _ _ _ _ _ => mg_name sc.nd) (fun _ _ _ _ _ => mts_nil) (fun _ _ _ _ _ => me_tup (ma_cons (me_ix (om_ix hr.u1) (me_var (i := 4)) (me_int)) (ma_cons (me_int) (ma_nil)))) (by decide))))
  (mss_one (ms_fld (me_var (i := 0)) (me_lc (own := [("which", 5), ("to", 6)]) (.inr rfl) rfl sc.nd (mi_val (me_bi (cm_sorted hr.u200 rfl) rfl E.n_sorted PyProof.Rows.boot_sorted (ma_cons (me_var (i := 3)) (ma_nil)))) (blkOk_by (by kernel_rfl)) (fun _ _ _ _ _ => mg_tup rfl (mgs_cons (mg_name sc.nd) (mgs_cons (mg_name sc.nd) (mgs_nil)))) (fun _ _ _ _ _ => mts_nil) (fun _ _ _ _ _ => me_tup (ma_cons (me_var (i := 6)) (ma_cons (me_var (i := 5)) (ma_nil)))) (by decide)) rfl E.c_Meeting E.na_Meeting_left nd_Meeting rfl)))))
theorem sc33 : FnScope ["self", "which"] ["self", "which"] (defScope s33) := ⟨rfl, rfl, rfl, by decide +kernel, rfl, by decide +kernel, by decide +kernel⟩
theorem ok_House_text_of (E : Env K mg) : FnM P w K mg base (Gb K) 3 (He.ma K (He.ga K "House") "text_of") 2 m_House_text_of := by
  have sc := sc33
  obtain ⟨fd, D⟩ := E.D33
  exact FnM.of D sc (fun _ _ _ _ _ _ us hl => match us, hl with | [_, _], _ => rfl) (fun cdv A outer s H E0 hr =>
  mss_one (ms_ret (me_ix (om_ix hr.u1) (me_ix (om_ix hr.u1) (me_ix (om_ix hr.u1) (me_meth (me_var (i := 0)) rfl E.c_House E.m_House_there nf_House_there (FnM.mono (ok_House_there E) (by decide)) hr (takes_of rfl rfl rfl rfl) (ma_cons (me_var (i := 1)) (ma_nil)) (al_cons al_nil)) (me_int)) (me_neg (me_int))) (me_int))))
theorem sc34 : FnScope ["self", "which"] ["self"] (defScope s34) := ⟨rfl, rfl, rfl, by decide +kernel, rfl, by decide +kernel, by decide +kernel⟩
theorem ok_House_ids (E : Env K mg) : FnM P w K mg base (Gb K) 2 (He.ma K (He.ga K "House") "ids") 1 m_House_ids := by
  have sc := sc34
  obtain ⟨fd, D⟩ := E.D34
  exact FnM.of D sc (fun _ _ _ _ _ _ us hl => match us, hl with | [_], _ => rfl) (fun cdv A outer s H E0 hr =>
  mss_one (ms_ret (me_biT cm_tuple rfl E.n_tuple PyProof.Rows.boot_tuple (ma_cons (me_lc (own := [("which", 1)]) (.inl rfl) rfl sc.nd (mi_val (me_bi (cm_sorted hr.u200 rfl) rfl E.n_sorted PyProof.Rows.boot_sorted (ma_cons (me_fld (me_var (i := 0)) rfl E.c_House E.na_House_shelf nd_House rfl) (ma_nil)))) (blkOk_by (by kernel_rfl)) (fun _ _ _ _ _ => mg_name sc.nd) (fun _ _ _ _ _ => mts_one (mt_not (mt_tru (me_call (FnM.mono (ok_is_gone E) (by decide)) hr tk0 rfl E.g_is_gone (ma_cons (me_ix (om_ix hr.u1) (me_fld (me_var (i := 0)) rfl E.c_House E.na_House_shelf nd_House rfl) (me_var (i := 1))) (ma_nil)) (al_cons al_nil))))) (fun _ _ _ _ _ => me_var (i := 1)) (by decide)) (ma_nil)))))
theorem sc35 : FnScope ["file", "mark", "name"] ["file"] (defScope s35) := ⟨rfl, rfl, rfl, by decide +kernel, rfl, by decide +kernel, by decide +kernel⟩
theorem ok_name_of (E : Env K mg) : FnM P w K mg base (Gb K) 1 (He.ga K "name_of") 1 m_name_of := by
  have sc := sc35
  obtain ⟨fd, D⟩ := E.D35
  exact FnM.of D sc (fun _ _ _ _ _ _ us hl => match us, hl with | [_], _ => rfl) (fun cdv A outer s H E0 hr =>
  mss_one (ms_ret (me_minD hr.u200 rfl rfl E.n_min (me_lc (own := [("mark", 1), ("name", 2)]) (.inl rfl) rfl sc.nd (mi_val (me_ix (om_ix hr.u1) (me_var (i := 0)) (me_int))) (blkOk_by (by kernel_rfl)) (fun _ _ _ _ _ => mg_tup rfl (mgs_cons (mg_name sc.nd) (mgs_cons (mg_name sc.nd) (mgs_nil)))) (fun _ _ _ _ _ => mts_nil) (fun _ _ _ _ _ => me_var (i := 2)) (by decide)) (me_ix (om_ix hr.u1) (me_var (i := 0)) (me_int)))))
theorem sc36 : FnScope ["self", "many", "found", "which", "name"] ["self"] (defScope s36) := ⟨rfl, rfl, rfl, by decide +kernel, rfl, by decide +kernel, by decide +kernel⟩
theorem ok_House_shown (E : Env K mg) : FnM P w K mg base (Gb K) 3 (He.ma K (He.ga K "House") "shown") 1 m_House_shown := by
  have sc := sc36
  obtain ⟨fd, D⟩ := E.D36
  exact FnM.of D sc (fun _ _ _ _ _ _ us hl => match us, hl with | [_], _ => rfl) (fun cdv A outer s H E0 hr =>
  mss_cons (ms_set (i := 1) sc.nd (me_dictK))
  (mss_cons (ms_set (i := 2) sc.nd (me_lstR (ma_nil)))
  (mss_cons (ms_for (passes_of rfl) rfl (mi_val (me_meth0 (me_var (i := 0)) rfl E.c_House E.m_House_ids nf_House_ids (FnM.mono (ok_House_ids E) (by decide)) hr (takes_of rfl rfl rfl rfl))) (mg_name sc.nd) (mss_cons (ms_set (i := 4) sc.nd (me_call (FnM.mono (ok_name_of E) (by decide)) hr (takes_of rfl rfl rfl rfl) rfl E.g_name_of (ma_cons (me_ix (om_ix hr.u1) (me_fld (me_var (i := 0)) rfl E.c_House E.na_House_shelf nd_House rfl) (me_var (i := 3))) (ma_nil)) (al_cons al_nil)))
  (mss_cons (ms_sub hr.u1 (me_var (i := 1)) (me_var (i := 4)) (me_op om_add (me_get2 hr.u1 (me_var (i := 1)) (me_var (i := 4)) (me_int)) (me_int)))
  (mss_cons (ms_if (mt_cmp om_gt (me_ix (om_ix hr.u1) (me_var (i := 1)) (me_var (i := 4))) (me_int) (nomark _)) (mss_one (ms_set (i := 4) sc.nd (me_op om_add (me_op om_add (me_var (i := 4)) (me_str)) (me_biT cm_str rfl E.n_str PyProof.Rows.boot_str (ma_cons (me_ix (om_ix hr.u1) (me_var (i := 1)) (me_var (i := 4))) (ma_nil)))))) (mss_nil))
  (mss_one (ms_expr (me_bm (T := .list) mm_append PySem.F.plainAttrs_list PySem.F.slot_list_append PySem.F.type_list_append (me_var (i := 2)) (ma_cons (me_tup (ma_cons (me_var (i := 4)) (ma_cons (me_var (i := 3)) (ma_nil)))) (ma_nil)))))))))
  (mss_one (ms_ret (me_biT cm_tuple rfl E.n_tuple PyProof.Rows.boot_tuple (ma_cons (me_bi (cm_sorted hr.u200 rfl) rfl E.n_sorted PyProof.Rows.boot_sorted (ma_cons (me_var (i := 2)) (ma_nil))) (ma_nil))))))))
theorem sc37 : FnScope ["file", "found", "word", "some", "mark", "what"] ["file"] (defScope s37) := ⟨rfl, rfl, rfl, by decide +kernel, rfl, by decide +kernel, by decide +kernel⟩
theorem ok_quarrels_of (E : Env K mg) : FnM P w K mg base (Gb K) 2 (He.ga K "quarrels_of") 1 m_quarrels_of := by
  have sc := sc37
  obtain ⟨fd, D⟩ := E.D37
  exact FnM.of D sc (fun _ _ _ _ _ _ us hl => match us, hl with | [_], _ => rfl) (fun cdv A outer s H E0 hr =>
  mss_cons (ms_if (mt_tru (me_call (FnM.mono (ok_is_gone E) (by decide)) hr (takes_of rfl rfl rfl rfl) rfl E.g_is_gone (ma_cons (me_var (i := 0)) (ma_nil)) (al_cons al_nil))) (mss_one (ms_ret (me_tup (ma_nil)))) (mss_nil))
  (mss_cons (ms_set (i := 1) sc.nd (me_tup (ma_nil)))
  (mss_cons (ms_for (passes_of rfl) rfl (mi_val (me_tup (ma_cons (me_tup (ma_cons (me_str) (ma_cons (me_ix (om_ix hr.u1) (me_var (i := 0)) (me_int)) (ma_nil)))) (ma_cons (me_tup (ma_cons (me_str) (ma_cons (me_ix (om_ix hr.u1) (me_var (i := 0)) (me_int)) (ma_nil)))) (ma_nil))))) (mg_tup rfl (mgs_cons (mg_name sc.nd) (mgs_cons (mg_name sc.nd) (mgs_nil)))) (mss_one (ms_if (mt_cmp om_gt (me_lenSet hr.u200 rfl E.n_len E.n_set (me_lc (own := [("mark", 4), ("what", 5)]) (.inl rfl) rfl sc.nd (mi_val (me_var (i := 3))) (blkOk_by (by kernel_rfl)) (fun _ _ _ _ _ => mg_tup rfl (mgs_cons (mg_name sc.nd) (mgs_cons (mg_name sc.nd) (mgs_nil)))) (fun _ _ _ _ _ => mts_nil) (fun _ _ _ _ _ => me_var (i := 5)) (by decide))) (me_int) (nomark _)) (mss_one (ms_set (i := 1) sc.nd (me_op om_add (me_var (i := 1)) (me_tup (ma_cons (me_var (i := 2)) (ma_nil)))))) (mss_nil))))
  (mss_one (ms_ret (me_var (i := 1)))))))
theorem sc38 : FnScope ["self", "some", "which", "pair"] ["self"] (defScope s38) := ⟨rfl, rfl, rfl, by decide +kernel, rfl, by decide +kernel, by decide +kernel⟩
theorem ok_House_quarrels (E : Env K mg) : FnM P w K mg base (Gb K) 3 (He.ma K (He.ga K "House") "quarrels") 1 m_House_quarrels := by
  have sc := sc38
  obtain ⟨fd, D⟩ := E.D38
  exact FnM.of D sc (fun _ _ _ _ _ _ us hl => match us, hl with | [_], _ => rfl) (fun cdv A outer s H E0 hr =>
  mss_cons (ms_setLc (own := [("which", 2)]) (.inl rfl) rfl sc.nd rfl rfl rfl (mi_val (me_meth0 (me_var (i := 0)) rfl E.c_House E.m_House_ids nf_House_ids (FnM.mono (ok_House_ids E) (by decide)) hr (takes_of rfl rfl rfl rfl))) (blkOk_by (by kernel_rfl)) (fun _ _ _ _ _ => mg_name sc.nd) (fun _ _ _ _ _ => mts_nil) (fun _ _ _ _ _ => me_tup (ma_cons (me_var (i := 2)) (ma_cons (me_call (FnM.mono (ok_quarrels_of E) (by decide)) hr tk0 rfl E.g_quarrels_of (ma_cons (me_ix (om_ix hr.u1) (me_fld (me_var (i := 0)) rfl E.c_House E.na_House_shelf nd_House rfl) (me_var (i := 2))) (ma_nil)) (al_cons al_nil)) (ma_nil)))) (by decide))
  (mss_one (ms_ret (me_biT cm_tuple rfl E.n_tuple PyProof.Rows.boot_tuple (ma_cons (me_lc (own := [("pair", 3)]) (.inl rfl) rfl sc.nd (mi_val (me_var (i := 1))) (blkOk_by (by kernel_rfl)) (fun _ _ _ _ _ => mg_name sc.nd) (fun _ _ _ _ _ => mts_one (mt_cmp (om_ne hr.units) (me_ix (om_ix hr.u1) (me_var (i := 3)) (me_int)) (me_tup (ma_nil)) (nomark _))) (fun _ _ _ _ _ => me_var (i := 3)) (by decide)) (ma_nil))))))
theorem sc39 : FnScope ["self", "which"] ["self"] (defScope s39) := ⟨rfl, rfl, rfl, by decide +kernel, rfl, by decide +kernel, by decide +kernel⟩
theorem ok_House_gone (E : Env K mg) : FnM P w K mg base (Gb K) 2 (He.ma K (He.ga K "House") "gone") 1 m_House_gone := by
  have sc := sc39
  obtain ⟨fd, D⟩ := E.D39
  exact FnM.of D sc (fun _ _ _ _ _ _ us hl => match us, hl with | [_], _ => rfl) (fun cdv A outer s H E0 hr =>
  mss_one (ms_ret (me_biT cm_tuple rfl E.n_tuple PyProof.Rows.boot_tuple (ma_cons (me_lc (own := [("which", 1)]) (.inl rfl) rfl sc.nd (mi_val (me_bi (cm_sorted hr.u200 rfl) rfl E.n_sorted PyProof.Rows.boot_sorted (ma_cons (me_fld (me_var (i := 0)) rfl E.c_House E.na_House_shelf nd_House rfl) (ma_nil)))) (blkOk_by (by kernel_rfl)) (fun _ _ _ _ _ => mg_name sc.nd) (fun _ _ _ _ _ => mts_one (mt_tru (me_call (FnM.mono (ok_is_gone E) (by decide)) hr tk0 rfl E.g_is_gone (ma_cons (me_ix (om_ix hr.u1) (me_fld (me_var (i := 0)) rfl E.c_House E.na_House_shelf nd_House rfl) (me_var (i := 1))) (ma_nil)) (al_cons al_nil)))) (fun _ _ _ _ _ => me_var (i := 1)) (by decide)) (ma_nil)))))
theorem sc40 : FnScope ["_law_house", "_law_file", "_law_kinds", "_law_mark", "_law_name_here", "_law_text_here", "_law_due", "_law_word"] ["_law_house", "_law_file"] (defScope s40) := ⟨rfl, rfl, rfl, by decide +kernel, rfl, by decide +kernel, by decide +kernel⟩
theorem ok_law_is_told_v1 (E : Env K mg) : FnM P w K mg base (Gb K) 33 (He.ga K "_law_is_told") 2 m_law_is_told_v1 := by
  have sc := sc40
  obtain ⟨fd, D⟩ := E.D40
  exact FnM.of D sc (fun _ _ _ _ _ _ us hl => match us, hl with | [_, _], _ => rfl) (fun cdv A outer s H E0 hr =>
  mss_cons (ms_set (i := 2) sc.nd (me_tup (ma_nil)))
  (mss_cons (ms_if (mt_cmp om_gt (me_lenSet hr.u200 rfl E.n_len E.n_set (me_lc (own := [("_law_mark", 3), ("_law_name_here", 4)]) (.inl rfl) rfl sc.nd (mi_val (me_ix (om_ix hr.u1) (me_var (i := 1)) (me_int))) (blkOk_by (by kernel_rfl)) (fun _ _ _ _ _ => mg_tup rfl (mgs_cons (mg_name sc.nd) (mgs_cons (mg_name sc.nd) (mgs_nil)))) (fun _ _ _ _ _ => mts_nil) (fun _ _ _ _ _ => me_var (i := 4)) (by decide))) (me_int) (nomark _)) (mss_one (ms_set (i := 2) sc.nd (me_op om_add (me_var (i := 2)) (me_tup (ma_cons (me_str) (ma_nil)))))) (mss_nil))
  (mss_cons (ms_if (mt_cmp om_gt (me_lenSet hr.u200 rfl E.n_len E.n_set (me_lc (own := [("_law_mark", 3), ("_law_text_here", 5)]) (.inl rfl) rfl sc.nd (mi_val (me_ix (om_ix hr.u1) (me_var (i := 1)) (me_int))) (blkOk_by (by kernel_rfl)) (fun _ _ _ _ _ => mg_tup rfl (mgs_cons (mg_name sc.nd) (mgs_cons (mg_name sc.nd) (mgs_nil)))) (fun _ _ _ _ _ => mts_nil) (fun _ _ _ _ _ => me_var (i := 5)) (by decide))) (me_int) (nomark _)) (mss_one (ms_set (i := 2) sc.nd (me_op om_add (me_var (i := 2)) (me_tup (ma_cons (me_str) (ma_nil)))))) (mss_nil))
  (mss_cons (ms_set (i := 6) sc.nd (me_tup (ma_nil)))
  (mss_cons (ms_if (MW.mt (mw_and (mt_tru (me_var (i := 2))) (mw_and1 (mt_tru (me_ix (om_ix hr.u1) (me_var (i := 1)) (me_int)))))) (mss_one (ms_set (i := 6) sc.nd (me_tup (ma_cons (me_tup (ma_cons (me_ix (om_ix hr.u1) (me_var (i := 1)) (me_int)) (ma_cons (me_var (i := 2)) (ma_nil)))) (ma_nil))))) (mss_nil))
  (mss_cons (ms_if (MW.mt (mw_or (mt_not (mt_tru (me_call (FnM.mono (ok_law_same E) (by decide)) hr (takes_of rfl rfl rfl rfl) rfl E.g__law_same (ma_cons (me_meth (me_var (i := 0)) rfl E.c_House E.m_House_file nf_House_file (FnM.mono (ok_House_file E) (by decide)) hr (takes_of rfl rfl rfl rfl) (ma_cons (me_ix (om_ix hr.u1) (me_var (i := 1)) (me_int)) (ma_nil)) (al_cons al_nil)) (ma_cons (me_var (i := 1)) (ma_nil))) (al_cons (al_cons al_nil))))) (mw_or1 (mt_not (mt_tru (me_call (FnM.mono (ok_law_same E) (by decide)) hr (takes_of rfl rfl rfl rfl) rfl E.g__law_same (ma_cons (me_meth0 (me_var (i := 0)) rfl E.c_House E.m_House_quarrels nf_House_quarrels (FnM.mono (ok_House_quarrels E) (by decide)) hr (takes_of rfl rfl rfl rfl)) (ma_cons (me_var (i := 6)) (ma_nil))) (al_cons (al_cons al_nil)))))))) (mss_one (ms_ret (me_bl))) (mss_nil))
  (mss_cons (ms_if (mt_not (mt_tru (me_ix (om_ix hr.u1) (me_var (i := 1)) (me_int)))) (mss_one (ms_ret (me_and (me_cmp (om_eq hr.units) (me_meth0 (me_var (i := 0)) rfl E.c_House E.m_House_shown nf_House_shown (FnM.mono (ok_House_shown E) (by decide)) hr (takes_of rfl rfl rfl rfl)) (me_tup (ma_nil)) (nomark _)) (me_and (me_cmp (om_eq hr.units) (me_meth0 (me_var (i := 0)) rfl E.c_House E.m_House_ids nf_House_ids (FnM.mono (ok_House_ids E) (by decide)) hr (takes_of rfl rfl rfl rfl)) (me_tup (ma_nil)) (nomark _)) (me_one (me_call (FnM.mono (ok_law_same E) (by decide)) hr (takes_of rfl rfl rfl rfl) rfl E.g__law_same (ma_cons (me_meth0 (me_var (i := 0)) rfl E.c_House E.m_House_gone nf_House_gone (FnM.mono (ok_House_gone E) (by decide)) hr (takes_of rfl rfl rfl rfl)) (ma_cons (me_tup (ma_cons (me_ix (om_ix hr.u1) (me_var (i := 1)) (me_int)) (ma_nil))) (ma_nil))) (al_cons (al_cons al_nil)))))))) (mss_nil))
  (mss_cons (ms_set (i := 4) sc.nd (me_minD hr.u200 rfl rfl E.n_min (me_lc (own := [("_law_mark", 3), ("_law_word", 7)]) (.inl rfl) rfl sc.nd (mi_val (me_ix (om_ix hr.u1) (me_var (i := 1)) (me_int))) (blkOk_by (by kernel_rfl)) (fun _ _ _ _ _ => mg_tup rfl (mgs_cons (mg_name sc.nd) (mgs_cons (mg_name sc.nd) (mgs_nil)))) (fun _ _ _ _ _ => mts_nil) (fun _ _ _ _ _ => me_var (i := 7)) (by decide)) (me_ix (om_ix hr.u1) (me_var (i := 1)) (me_int))))
  (mss_one (ms_ret (me_and (me_call (FnM.mono (ok_law_same E) (by decide)) hr (takes_of rfl rfl rfl rfl) rfl E.g__law_same (ma_cons (me_meth (me_var (i := 0)) rfl E.c_House E.m_House_text_of nf_House_text_of (FnM.mono (ok_House_text_of E) (by decide)) hr (takes_of rfl rfl rfl rfl) (ma_cons (me_ix (om_ix hr.u1) (me_var (i := 1)) (me_int)) (ma_nil)) (al_cons al_nil)) (ma_cons (me_ix (om_ix hr.u1) (me_ix (om_ix hr.u1) (me_ix (om_ix hr.u1) (me_var (i := 1)) (me_int)) (me_neg (me_int))) (me_int)) (ma_nil))) (al_cons (al_cons al_nil))) (me_one (me_call (FnM.mono (ok_law_same E) (by decide)) hr (takes_of rfl rfl rfl rfl) rfl E.g__law_same (ma_cons (me_meth0 (me_var (i := 0)) rfl E.c_House E.m_House_shown nf_House_shown (FnM.mono (ok_House_shown E) (by decide)) hr (takes_of rfl rfl rfl rfl)) (ma_cons (me_tup (ma_cons (me_tup (ma_cons (me_var (i := 4)) (ma_cons (me_ix (om_ix hr.u1) (me_var (i := 1)) (me_int)) (ma_nil)))) (ma_nil))) (ma_nil))) (al_cons (al_cons al_nil)))))))))))))))
theorem sc41 : FnScope ["_law_script", "_law_numbers", "_law_houses", "_law_number", "_law_words", "_law_k", "_law_which", "_law_bits", "_law_many", "_law_names", "_law_texts", "_law_more", "_law_new_names", "_law_new_texts", "_law_known", "_law_file", "_law_house", "_law_at", "_law_mark", "_law_counts", "_law_heard", "_law_after", "_law_other"] ["_law_script"] (defScope s41) := ⟨rfl, rfl, rfl, by decide +kernel, rfl, by decide +kernel, by decide +kernel⟩
theorem ok_law (E : Env K mg) {fd : FuncData} (D : FunD K "law" "law" (defArgs s41) (defBody s41) (defScope s41) [] [] (He.ga K "law") fd) : FnOk P w K mg base (L2.CX P w) 34 (He.ga K "law") fd ["_law_script"] (spM (Gb K) 1 m_law_k18) := by
  have sc := sc41
  exact FnM.at_ D sc (fun cdv A outer s H E0 hr =>
  mss_cons (ms_set (i := 1) sc.nd (mslice (me_call (FnM.mono (ok_law_perm E) (by decide)) hr (takes_of rfl rfl rfl rfl) rfl E.g__law_perm (ma_cons (me_call (FnM.mono (ok_law_cell E) (by decide)) hr (takes_of rfl rfl rfl rfl) rfl E.g__law_cell (ma_cons (me_var (i := 0)) (ma_cons (me_int) (ma_nil))) (al_cons (al_cons al_nil))) (ma_cons (me_int) (ma_nil))) (al_cons (al_cons al_nil))) (mo_none) (mo_some (me_int))))
  (mss_cons (ms_setLc (own := [("_law_number", 3)]) (.inl rfl) rfl sc.nd rfl rfl rfl (mi_val (me_var (i := 1))) (blkOk_by (by kernel_rfl)) (fun _ _ _ _ _ => mg_name sc.nd) (fun _ _ _ _ _ => mts_nil) (fun _ _ _ _ _ => me_make E.mk_House rfl (FnM.mono (ok_House_init E) (by decide)) hr tk0 rfl E.g_House (ma_cons (me_var (i := 3)) (ma_nil)) (al_cons al_nil) nx_House_init) (by decide))
  (mss_cons (ms_setLc (own := [("_law_k", 5)]) (.inl rfl) rfl sc.nd rfl rfl rfl (mi_range1 rfl E.n_range (ma_cons (me_int) (ma_nil))) (blkOk_by (by kernel_rfl)) (fun _ _ _ _ _ => mg_name sc.nd) (fun _ _ _ _ _ => mts_nil) (fun _ _ _ _ _ => me_tup (ma_cons (me_call (FnM.mono (ok_law_text E) (by decide)) hr tk0 rfl E.g__law_text (ma_cons (me_op om_sub (me_call (FnM.mono (ok_law_cell E) (by decide)) hr tk0 rfl E.g__law_cell (ma_cons (me_var (i := 0)) (ma_cons (me_op om_add (me_int) (me_var (i := 5))) (ma_nil))) (al_cons (al_cons al_nil))) (me_op om_mod (me_var (i := 5)) (me_int))) (ma_nil)) (al_cons al_nil)) (ma_cons (me_call (FnM.mono (ok_law_name E) (by decide)) hr tk0 rfl E.g__law_name (ma_cons (me_call (FnM.mono (ok_law_cell E) (by decide)) hr tk0 rfl E.g__law_cell (ma_cons (me_var (i := 0)) (ma_cons (me_op om_add (me_int) (me_var (i := 5))) (ma_nil))) (al_cons (al_cons al_nil))) (ma_nil)) (al_cons al_nil)) (ma_nil)))) (by decide))
  (mss_cons (ms_set (i := 6) sc.nd (me_tup (ma_cons (me_ix (om_ix hr.u1) (me_var (i := 1)) (me_int)) (ma_cons (me_int) (ma_nil)))))
  (mss_cons (ms_if (mt_not (mt_tru (me_call (FnM.mono (ok_law_same E) (by decide)) hr (takes_of rfl rfl rfl rfl) rfl E.g__law_same (ma_cons (me_meth (me_ix (om_ix hr.u1) (me_var (i := 2)) (me_int)) rfl E.c_House E.m_House_make nf_House_make (FnM.mono (ok_House_make E) (by decide)) hr (takes_of rfl rfl rfl rfl) (ma_cons (me_ix (om_ix hr.u1) (me_ix (om_ix hr.u1) (me_var (i := 4)) (me_int)) (me_int)) (ma_cons (me_ix (om_ix hr.u1) (me_ix (om_ix hr.u1) (me_var (i := 4)) (me_int)) (me_int)) (ma_nil))) (al_cons (al_cons al_nil))) (ma_cons (me_var (i := 6)) (ma_nil))) (al_cons (al_cons al_nil))))) (mss_one (ms_ret (me_bl))) (mss_nil))
  (mss_cons (ms_expr (me_meth0 (me_make E.mk_Meeting rfl (FnM.mono (ok_Meeting_init E) (by decide)) hr (takes_of rfl rfl rfl rfl) rfl E.g_Meeting (ma_cons (me_ix (om_ix hr.u1) (me_var (i := 2)) (me_int)) (ma_cons (me_ix (om_ix hr.u1) (me_var (i := 2)) (me_int)) (ma_nil))) (al_cons (al_cons al_nil)) nx_Meeting_init) rfl E.c_Meeting E.m_Meeting_rest nf_Meeting_rest (FnM.mono (ok_Meeting_rest E) (by decide)) hr (takes_of rfl rfl rfl rfl)))
  (mss_cons (ms_set (i := 7) sc.nd (me_tup (ma_cons (me_op om_mod (me_call (FnM.mono (ok_law_cell E) (by decide)) hr (takes_of rfl rfl rfl rfl) rfl E.g__law_cell (ma_cons (me_var (i := 0)) (ma_cons (me_int) (ma_nil))) (al_cons (al_cons al_nil))) (me_int)) (ma_cons (me_op om_mod (me_call (FnM.mono (ok_law_cell E) (by decide)) hr (takes_of rfl rfl rfl rfl) rfl E.g__law_cell (ma_cons (me_var (i := 0)) (ma_cons (me_int) (ma_nil))) (al_cons (al_cons al_nil))) (me_int)) (ma_nil)))))
  (mss_cons (ms_asg (me_call (FnM.mono (ok_law_change E) (by decide)) hr (takes_of rfl rfl rfl rfl) rfl E.g__law_change (ma_cons (me_ix (om_ix hr.u1) (me_var (i := 2)) (me_int)) (ma_cons (me_ix (om_ix hr.u1) (me_var (i := 1)) (me_int)) (ma_cons (me_int) (ma_cons (me_var (i := 6)) (ma_cons (me_ix (om_ix hr.u1) (me_var (i := 7)) (me_int)) (ma_cons (me_ix (om_ix hr.u1) (me_var (i := 4)) (me_int)) (ma_nil))))))) (al_cons (al_cons (al_cons (al_cons (al_cons (al_cons al_nil))))))) (mg_tup rfl (mgs_cons (mg_name sc.nd) (mgs_cons (mg_name sc.nd) (mgs_cons (mg_name sc.nd) (mgs_nil))))))
  (mss_cons (ms_asg (me_call (FnM.mono (ok_law_change E) (by decide)) hr (takes_of rfl rfl rfl rfl) rfl E.g__law_change (ma_cons (me_ix (om_ix hr.u1) (me_var (i := 2)) (me_int)) (ma_cons (me_ix (om_ix hr.u1) (me_var (i := 1)) (me_int)) (ma_cons (me_int) (ma_cons (me_var (i := 6)) (ma_cons (me_ix (om_ix hr.u1) (me_var (i := 7)) (me_int)) (ma_cons (me_ix (om_ix hr.u1) (me_var (i := 4)) (me_int)) (ma_nil))))))) (al_cons (al_cons (al_cons (al_cons (al_cons (al_cons al_nil))))))) (mg_tup rfl (mgs_cons (mg_name sc.nd) (mgs_cons (mg_name sc.nd) (mgs_cons (mg_name sc.nd) (mgs_nil))))))
  (mss_cons (ms_set (i := 10) sc.nd (me_biT cm_tuple rfl E.n_tuple PyProof.Rows.boot_tuple (ma_cons (me_bi (cm_sortedT hr.u200 rfl) rfl E.n_sorted PyProof.Rows.boot_sorted (ma_cons (me_op om_add (me_var (i := 10)) (me_var (i := 13))) (ma_nil))) (ma_nil))))
  (mss_cons (ms_if (mt_not (mt_tru (me_var (i := 10)))) (mss_one (ms_set (i := 10) sc.nd (me_tup (ma_cons (me_tup (ma_cons (me_var (i := 6)) (ma_cons (me_ix (om_ix hr.u1) (me_ix (om_ix hr.u1) (me_var (i := 4)) (me_int)) (me_int)) (ma_nil)))) (ma_nil))))) (mss_nil))
  (mss_cons (ms_set (i := 14) sc.nd (me_lstR (ma_cons (me_tup (ma_cons (me_ix (om_ix hr.u1) (me_var (i := 1)) (me_int)) (ma_cons (me_var (i := 8)) (ma_nil)))) (ma_nil))))
  (mss_cons (ms_if (mt_cmp om_gt (me_var (i := 11)) (me_int) (nomark _)) (mss_one (ms_expr (me_bm (T := .list) mm_append PySem.F.plainAttrs_list PySem.F.slot_list_append PySem.F.type_list_append (me_var (i := 14)) (ma_cons (me_tup (ma_cons (me_ix (om_ix hr.u1) (me_var (i := 1)) (me_int)) (ma_cons (me_var (i := 11)) (ma_nil)))) (ma_nil))))) (mss_nil))
  (mss_cons (ms_set (i := 15) sc.nd (me_tup (ma_cons (me_var (i := 6)) (ma_cons (me_ix (om_ix hr.u1) (me_ix (om_ix hr.u1) (me_var (i := 4)) (me_int)) (me_int)) (ma_cons (me_biT cm_tuple rfl E.n_tuple PyProof.Rows.boot_tuple (ma_cons (me_bi (cm_sorted hr.u200 rfl) rfl E.n_sorted PyProof.Rows.boot_sorted (ma_cons (me_var (i := 14)) (ma_nil))) (ma_nil))) (ma_cons (me_biT cm_tuple rfl E.n_tuple PyProof.Rows.boot_tuple (ma_cons (me_bi (cm_sortedT hr.u200 rfl) rfl E.n_sorted PyProof.Rows.boot_sorted (ma_cons (me_op om_add (me_var (i := 9)) (me_var (i := 12))) (ma_nil))) (ma_nil))) (ma_cons (me_var (i := 10)) (ma_nil))))))))
  (mss_cons (ms_expr (me_meth0 (me_make E.mk_Meeting rfl (FnM.mono (ok_Meeting_init E) (by decide)) hr (takes_of rfl rfl rfl rfl) rfl E.g_Meeting (ma_cons (me_ix (om_ix hr.u1) (me_var (i := 2)) (me_int)) (ma_cons (me_ix (om_ix hr.u1) (me_var (i := 2)) (me_int)) (ma_nil))) (al_cons (al_cons al_nil)) nx_Meeting_init) rfl E.c_Meeting E.m_Meeting_rest nf_Meeting_rest (FnM.mono (ok_Meeting_rest E) (by decide)) hr (takes_of rfl rfl rfl rfl)))
  (mss_cons (ms_expr (me_meth0 (me_make E.mk_Meeting rfl (FnM.mono (ok_Meeting_init E) (by decide)) hr (takes_of rfl rfl rfl rfl) rfl E.g_Meeting (ma_cons (me_ix (om_ix hr.u1) (me_var (i := 2)) (me_int)) (ma_cons (me_ix (om_ix hr.u1) (me_var (i := 2)) (me_int)) (ma_nil))) (al_cons (al_cons al_nil)) nx_Meeting_init) rfl E.c_Meeting E.m_Meeting_rest nf_Meeting_rest (FnM.mono (ok_Meeting_rest E) (by decide)) hr (takes_of rfl rfl rfl rfl)))
  (mss_cons (ms_if (mt_not (mt_tru (me_bi (cm_all rfl) rfl E.n_all PyProof.Rows.boot_all (ma_cons (me_lc (own := [("_law_house", 16)]) (.inl rfl) rfl sc.nd (mi_val (me_var (i := 2))) (blkOk_by (by kernel_rfl)) (fun _ _ _ _ _ => mg_name sc.nd) (fun _ _ _ _ _ => mts_nil) (fun _ _ _ _ _ => me_call (FnM.mono (ok_law_is_told_v1 E) (by decide)) hr tk0 rfl E.g__law_is_told (ma_cons (me_var (i := 16)) (ma_cons (me_var (i := 15)) (ma_nil))) (al_cons (al_cons al_nil))) (by decide)) (ma_nil))))) (mss_one (ms_ret (me_bl))) (mss_nil))
  (mss_cons (ms_set (i := 17) sc.nd (me_call (FnM.mono (ok_law_mix E) (by decide)) hr (takes_of rfl rfl rfl rfl) rfl E.g__law_mix (ma_cons (me_call (FnM.mono (ok_law_cell E) (by decide)) hr (takes_of rfl rfl rfl rfl) rfl E.g__law_cell (ma_cons (me_var (i := 0)) (ma_cons (me_int) (ma_nil))) (al_cons (al_cons al_nil))) (ma_cons (me_int) (ma_cons (me_int) (ma_nil)))) (al_cons (al_cons (al_cons al_nil)))))
  (mss_cons (ms_set (i := 18) sc.nd (me_tup (ma_cons (me_ix (om_ix hr.u1) (me_var (i := 1)) (me_var (i := 17))) (ma_cons (me_op om_add (me_ix (om_ix hr.u1) (me_tup (ma_cons (me_var (i := 8)) (ma_cons (me_var (i := 11)) (ma_cons (me_int) (ma_nil))))) (me_var (i := 17))) (me_int)) (ma_nil)))))
  (mss_cons (ms_set (i := 19) sc.nd (me_biT (cm_dictK rfl) rfl E.n_dict PyProof.Rows.boot_dict (ma_cons (me_var (i := 14)) (ma_nil))))
  (mss_cons (ms_sub hr.u1 (me_var (i := 19)) (me_ix (om_ix hr.u1) (me_var (i := 18)) (me_int)) (me_ix (om_ix hr.u1) (me_var (i := 18)) (me_int)))
  (mss_cons (ms_set (i := 20) sc.nd (me_biT cm_tuple rfl E.n_tuple PyProof.Rows.boot_tuple (ma_cons (me_lc (own := [("_law_house", 16)]) (.inl rfl) rfl sc.nd (mi_val (me_bi (cm_sorted hr.u200 rfl) rfl E.n_sorted PyProof.Rows.boot_sorted (ma_cons (me_var (i := 19)) (ma_nil)))) (blkOk_by (by kernel_rfl)) (fun _ _ _ _ _ => mg_name sc.nd) (fun _ _ _ _ _ => mts_nil) (fun _ _ _ _ _ => me_tup (ma_cons (me_var (i := 16)) (ma_cons (me_ix (om_ix hr.u1) (me_var (i := 19)) (me_var (i := 16))) (ma_nil)))) (by decide)) (ma_nil))))
  (mss_cons (ms_set (i := 21) sc.nd (me_call (FnM.mono (ok_law_last E) (by decide)) hr (takes_of rfl rfl rfl rfl) rfl E.g__law_last (ma_cons (me_ix (om_ix hr.u1) (me_var (i := 2)) (me_var (i := 17))) (ma_cons (me_var (i := 15)) (ma_cons (me_var (i := 20)) (ma_cons (me_var (i := 18)) (ma_cons (me_call (FnM.mono (ok_law_mix E) (by decide)) hr (takes_of rfl rfl rfl rfl) rfl E.g__law_mix (ma_cons (me_call (FnM.mono (ok_law_cell E) (by decide)) hr (takes_of rfl rfl rfl rfl) rfl E.g__law_cell (ma_cons (me_var (i := 0)) (ma_cons (me_int) (ma_nil))) (al_cons (al_cons al_nil))) (ma_cons (me_int) (ma_cons (me_int) (ma_nil)))) (al_cons (al_cons (al_cons al_nil)))) (ma_cons (me_ix (om_ix hr.u1) (me_var (i := 4)) (me_int)) (ma_nil))))))) (al_cons (al_cons (al_cons (al_cons (al_cons (al_cons al_nil))))))))
  (mss_cons (ms_for (passes_of rfl) rfl (mi_val (me_tup (ma_cons (me_int) (ma_cons (me_int) (ma_cons (me_int) (ma_cons (me_int) (ma_cons (me_int) (ma_nil)))))))) (mg_name sc.nd) (mss_one (ms_expr (me_meth0 (me_make E.mk_Meeting rfl (FnM.mono (ok_Meeting_init E) (by decide)) hr (takes_of rfl rfl rfl rfl) rfl E.g_Meeting (ma_cons (me_ix (om_ix hr.u1) (me_var (i := 2)) (me_var (i := 22))) (ma_cons (me_ix (om_ix hr.u1) (me_var (i := 2)) (me_op om_mod (me_op om_add (me_var (i := 22)) (me_int)) (me_int))) (ma_nil))) (al_cons (al_cons al_nil)) nx_Meeting_init) rfl E.c_Meeting E.m_Meeting_rest nf_Meeting_rest (FnM.mono (ok_Meeting_rest E) (by decide)) hr (takes_of rfl rfl rfl rfl)))))
  (mss_one (ms_ret (me_bi (cm_all rfl) rfl E.n_all PyProof.Rows.boot_all (ma_cons (me_lc (own := [("_law_house", 16)]) (.inl rfl) rfl sc.nd (mi_val (me_var (i := 2))) (blkOk_by (by kernel_rfl)) (fun _ _ _ _ _ => mg_name sc.nd) (fun _ _ _ _ _ => mts_nil) (fun _ _ _ _ _ => me_call (FnM.mono (ok_law_is_told_v1 E) (by decide)) hr tk0 rfl E.g__law_is_told (ma_cons (me_var (i := 16)) (ma_cons (me_var (i := 21)) (ma_nil))) (al_cons (al_cons al_nil))) (by decide)) (ma_nil)))))))))))))))))))))))))))))
end
theorem env {K : PySem.W.Frag} {h : Heap} {mg : Str → Option Value} (X : K.In h) (G0 : h.Ns mainGlobals mg) (c : He.SaysD fa fn K) : Env K mg where
  g_known_together := He.glo_ok X G0 (c.fact 0 (f := .glo "known_together") rfl)
  g_is_within := He.glo_ok X G0 (c.fact 1 (f := .glo "is_within") rfl)
  g_kept_of := He.glo_ok X G0 (c.fact 2 (f := .glo "kept_of") rfl)
  g_marked_together := He.glo_ok X G0 (c.fact 3 (f := .glo "marked_together") rfl)
  g_put_together := He.glo_ok X G0 (c.fact 4 (f := .glo "put_together") rfl)
  g_is_gone := He.glo_ok X G0 (c.fact 5 (f := .glo "is_gone") rfl)
  g_is_text := He.glo_ok X G0 (c.fact 6 (f := .glo "is_text") rfl)
  g_is_name := He.glo_ok X G0 (c.fact 7 (f := .glo "is_name") rfl)
  g__law_change := He.glo_ok X G0 (c.fact 8 (f := .glo "_law_change") rfl)
  g__law_mix := He.glo_ok X G0 (c.fact 9 (f := .glo "_law_mix") rfl)
  g__law_last := He.glo_ok X G0 (c.fact 10 (f := .glo "_law_last") rfl)
  g__law_perm := He.glo_ok X G0 (c.fact 11 (f := .glo "_law_perm") rfl)
  g__law_same := He.glo_ok X G0 (c.fact 12 (f := .glo "_law_same") rfl)
  g__law_cell := He.glo_ok X G0 (c.fact 13 (f := .glo "_law_cell") rfl)
  g__law_text := He.glo_ok X G0 (c.fact 14 (f := .glo "_law_text") rfl)
  g__law_name := He.glo_ok X G0 (c.fact 15 (f := .glo "_law_name") rfl)
  g_has_heard := He.glo_ok X G0 (c.fact 16 (f := .glo "has_heard") rfl)
  g_name_of := He.glo_ok X G0 (c.fact 17 (f := .glo "name_of") rfl)
  g_quarrels_of := He.glo_ok X G0 (c.fact 18 (f := .glo "quarrels_of") rfl)
  g__law_is_told := He.glo_ok X G0 (c.fact 19 (f := .glo "_law_is_told") rfl)
  g_law := He.glo_ok X G0 (c.fact 20 (f := .glo "law") rfl)
  n_len := He.free_ok X G0 (c.fact 21 (f := .free "len") rfl)
  n_isinstance := He.free_ok X G0 (c.fact 22 (f := .free "isinstance") rfl)
  n_all := He.free_ok X G0 (c.fact 23 (f := .free "all") rfl)
  n_any := He.free_ok X G0 (c.fact 24 (f := .free "any") rfl)
  n_range := He.free_ok X G0 (c.fact 25 (f := .free "range") rfl)
  n_sorted := He.free_ok X G0 (c.fact 26 (f := .free "sorted") rfl)
  n_tuple := He.free_ok X G0 (c.fact 27 (f := .free "tuple") rfl)
  n_dict := He.free_ok X G0 (c.fact 28 (f := .free "dict") rfl)
  n_set := He.free_ok X G0 (c.fact 29 (f := .free "set") rfl)
  n_list := He.free_ok X G0 (c.fact 30 (f := .free "list") rfl)
  n_str := He.free_ok X G0 (c.fact 31 (f := .free "str") rfl)
  n_int := He.free_ok X G0 (c.fact 32 (f := .free "int") rfl)
  n_bool := He.free_ok X G0 (c.fact 33 (f := .free "bool") rfl)
  n_max := He.free_ok X G0 (c.fact 34 (f := .free "max") rfl)
  n_min := He.free_ok X G0 (c.fact 35 (f := .free "min") rfl)
  n_zip := He.free_ok X G0 (c.fact 36 (f := .free "zip") rfl)
  LETTERS := He.str_ok X G0 (c.fact 37 (f := .str "LETTERS" "abcdefghijklmnopqrstuvwxyz") rfl)
  g_House := He.glo_ok X G0 (c.fact 38 (f := .glo "House") rfl)
  c_House := He.cls_ok (c.fact 39 (f := .cls "House") rfl)
  mk_House := He.mkr_ok (c.fact 40 (f := .mkr "House") rfl)
  m_House_file := He.meth_ok (c.fact 41 (f := .meth "House" "file") rfl)
  m_House_take := He.meth_ok (c.fact 42 (f := .meth "House" "take") rfl)
  m_House_there := He.meth_ok (c.fact 43 (f := .meth "House" "there") rfl)
  m_House_must_be_text := He.meth_ok (c.fact 44 (f := .meth "House" "must_be_text") rfl)
  m_House_next_mark := He.meth_ok (c.fact 45 (f := .meth "House" "next_mark") rfl)
  m_House_write := He.meth_ok (c.fact 46 (f := .meth "House" "write") rfl)
  m_House_must_be_name := He.meth_ok (c.fact 47 (f := .meth "House" "must_be_name") rfl)
  m_House_rename := He.meth_ok (c.fact 48 (f := .meth "House" "rename") rfl)
  m_House_drop := He.meth_ok (c.fact 49 (f := .meth "House" "drop") rfl)
  m_House_make := He.meth_ok (c.fact 50 (f := .meth "House" "make") rfl)
  m_House_news_for := He.meth_ok (c.fact 51 (f := .meth "House" "news_for") rfl)
  m_House_heard := He.meth_ok (c.fact 52 (f := .meth "House" "heard") rfl)
  m_House_text_of := He.meth_ok (c.fact 53 (f := .meth "House" "text_of") rfl)
  m_House_ids := He.meth_ok (c.fact 54 (f := .meth "House" "ids") rfl)
  m_House_shown := He.meth_ok (c.fact 55 (f := .meth "House" "shown") rfl)
  m_House_quarrels := He.meth_ok (c.fact 56 (f := .meth "House" "quarrels") rfl)
  m_House_gone := He.meth_ok (c.fact 57 (f := .meth "House" "gone") rfl)
  na_House_own := He.noat_ok (c.fact 58 (f := .noat "House" "own") rfl)
  na_House_acts := He.noat_ok (c.fact 59 (f := .noat "House" "acts") rfl)
  na_House_shelf := He.noat_ok (c.fact 60 (f := .noat "House" "shelf") rfl)
  na_House_told := He.noat_ok (c.fact 61 (f := .noat "House" "told") rfl)
  g_Meeting := He.glo_ok X G0 (c.fact 62 (f := .glo "Meeting") rfl)
  c_Meeting := He.cls_ok (c.fact 63 (f := .cls "Meeting") rfl)
  mk_Meeting := He.mkr_ok (c.fact 64 (f := .mkr "Meeting") rfl)
  m_Meeting_step := He.meth_ok (c.fact 65 (f := .meth "Meeting" "step") rfl)
  m_Meeting_rest := He.meth_ok (c.fact 66 (f := .meth "Meeting" "rest") rfl)
  na_Meeting_houses := He.noat_ok (c.fact 67 (f := .noat "Meeting" "houses") rfl)
  na_Meeting_left := He.noat_ok (c.fact 68 (f := .noat "Meeting" "left") rfl)
  g_NoFile := He.glo_ok X G0 (c.fact 69 (f := .glo "NoFile") rfl)
  x_NoFile := (He.exc_ok (c.fact 70 (f := .exc "NoFile") rfl)).1
  k_NoFile := (He.exc_ok (c.fact 70 (f := .exc "NoFile") rfl)).2.1
  sb_NoFile := (He.exc_ok (c.fact 70 (f := .exc "NoFile") rfl)).2.2.1
  ty_NoFile := (He.exc_ok (c.fact 70 (f := .exc "NoFile") rfl)).2.2.2
  g_NoName := He.glo_ok X G0 (c.fact 71 (f := .glo "NoName") rfl)
  x_NoName := (He.exc_ok (c.fact 72 (f := .exc "NoName") rfl)).1
  k_NoName := (He.exc_ok (c.fact 72 (f := .exc "NoName") rfl)).2.1
  sb_NoName := (He.exc_ok (c.fact 72 (f := .exc "NoName") rfl)).2.2.1
  ty_NoName := (He.exc_ok (c.fact 72 (f := .exc "NoName") rfl)).2.2.2
  g_NoWords := He.glo_ok X G0 (c.fact 73 (f := .glo "NoWords") rfl)
  x_NoWords := (He.exc_ok (c.fact 74 (f := .exc "NoWords") rfl)).1
  k_NoWords := (He.exc_ok (c.fact 74 (f := .exc "NoWords") rfl)).2.1
  sb_NoWords := (He.exc_ok (c.fact 74 (f := .exc "NoWords") rfl)).2.2.1
  ty_NoWords := (He.exc_ok (c.fact 74 (f := .exc "NoWords") rfl)).2.2.2
  em_NoFile_NoFile := He.exm_ok (c.fact 75 (f := .exm "NoFile" "NoFile" true) rfl)
  em_NoName_NoFile := He.exm_ok (c.fact 76 (f := .exm "NoName" "NoFile" false) rfl)
  em_NoWords_NoFile := He.exm_ok (c.fact 77 (f := .exm "NoWords" "NoFile" false) rfl)
  D0 := c.def_ 0 (d := d0) rfl
  D1 := c.def_ 1 (d := d1) rfl
  D2 := c.def_ 2 (d := d2) rfl
  D3 := c.def_ 3 (d := d3) rfl
  D4 := c.def_ 4 (d := d4) rfl
  D5 := c.def_ 5 (d := d5) rfl
  D6 := c.def_ 6 (d := d6) rfl
  D7 := c.def_ 7 (d := d7) rfl
  D8 := c.def_ 8 (d := d8) rfl
  D9 := c.def_ 9 (d := d9) rfl
  D10 := c.def_ 10 (d := d10) rfl
  D11 := c.def_ 11 (d := d11) rfl
  D12 := c.def_ 12 (d := d12) rfl
  D13 := c.def_ 13 (d := d13) rfl
  D14 := c.def_ 14 (d := d14) rfl
  D15 := c.def_ 15 (d := d15) rfl
  D16 := c.def_ 16 (d := d16) rfl
  D17 := c.def_ 17 (d := d17) rfl
  D18 := c.def_ 18 (d := d18) rfl
  D19 := c.def_ 19 (d := d19) rfl
  D20 := c.def_ 20 (d := d20) rfl
  D21 := c.def_ 21 (d := d21) rfl
  D22 := c.def_ 22 (d := d22) rfl
  D23 := c.def_ 23 (d := d23) rfl
  D24 := c.def_ 24 (d := d24) rfl
  D25 := c.def_ 25 (d := d25) rfl
  D26 := c.def_ 26 (d := d26) rfl
  D27 := c.def_ 27 (d := d27) rfl
  D28 := c.def_ 28 (d := d28) rfl
  D29 := c.def_ 29 (d := d29) rfl
  D30 := c.def_ 30 (d := d30) rfl
  D31 := c.def_ 31 (d := d31) rfl
  D32 := c.def_ 32 (d := d32) rfl
  D33 := c.def_ 33 (d := d33) rfl
  D34 := c.def_ 34 (d := d34) rfl
  D35 := c.def_ 35 (d := d35) rfl
  D36 := c.def_ 36 (d := d36) rfl
  D37 := c.def_ 37 (d := d37) rfl
  D38 := c.def_ 38 (d := d38) rfl
  D39 := c.def_ 39 (d := d39) rfl
  D40 := c.def_ 40 (d := d40) rfl
  D41 := c.def_ 41 (d := d41) rfl
end LW
open PySem PySem.W PySem.Calls PyProof.Rows
theorem PySem.Challenge.cw_twinshelves_k18_quarrels_end_holds : PySem.Challenge.rw_twinshelves_k18_quarrels_end.Holds := by
  w_on; o_law
  refine HandSHeadRun.head_any (r := OpenLaw.row PySem.Challenge.rw_twinshelves_k18_quarrels_end) (q := view (OpenLaw.row PySem.Challenge.rw_twinshelves_k18_quarrels_end).prog [34]) (H := LW.hk) (ob := LW.ob) (M := 20000) (loose := LW.loose) (d := HandSHeadRun.topDef (OpenLaw.row PySem.Challenge.rw_twinshelves_k18_quarrels_end).prog 34) (kwd := []) LW.ob_eq
    (by kernel_rfl) (fun s => by kernel_rfl) LW.run (by kernel_rfl) (by kernel_rfl) (by kernel_rfl) (by rfl) (by first | assumption | decide +kernel) (by decide +kernel) ⟨rfl, rfl, rfl, rfl, rfl, by decide +kernel⟩ ?hw ?hc
  case hw => w_witness2
  case hc =>
    refine MM.walk_ofW (l := PySem.Challenge.rw_twinshelves_k18_quarrels_end) (n := 63) (k := 34) (x := "_law_script") rfl (by decide) (by kernel_rfl) ⟨rfl, by decide, by decide⟩ ?F
    case F =>
      intro w mg fa h Y G hmg0
      obtain ⟨K, KX, c⟩ := Y
      have hmg : mg ("law" : PySem.Str) = some (.ref fa) := by
        have e : (HandSHeadRun.topDef (OpenLaw.row PySem.Challenge.rw_twinshelves_k18_quarrels_end).prog 34).name = ("law" : PySem.Str) := by kernel_rfl
        rw [← e]
        exact hmg0
      have E := LW.env KX G c
      have e2 := hmg.symm.trans E.g_law
      cases e2
      obtain ⟨fd, D⟩ := E.D41
      have b := L2.FunD.bindsA (ps := ["_law_script"]) D fun _ _ _ _ _ _ us hl => match us, hl with | [_], _ => rfl
      refine ⟨K, fd, MM.spM (LW.Gb K) 1 MM.m_law_k18, KX, fun s v => b s [v] rfl, fun H a ns hl _ hS => ?_, fun base _ _ => LW.ok_law E D⟩
      obtain ⟨h', e⟩ := MM.law_ok ns hl
      exact MM.law_start hS e
