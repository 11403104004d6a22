import PyProof.Rows.All
import HandS.ExcIs
import HandS.HeadHook1
import HandS.HeadHook2
import Wide.All
import OpenK.AllK
import Wide.FinOn
import HandS.ForMost
import HandS.Exc
import HandS.TryOnly
import HandS.ExcOwn
import HandS.WordsExc
import HandS.Defaults
import HandS.Flow
import HandS.Style
import HandS.StrMore
import HandS.FStr
import HandS.TupAny
import KE.SortData
import KE.KDictKeyed
import HandS.Zip
import HandS.RevRange
import KE.KxIndex
import HandS.TupLen
import HandS.Text
import HandS.IsInst
import HandS.Deep
import HandS.WordsDict
import HandS.Conv
import HandS.Iter
import HandS.Dict
import HandS.More
import KE.KDictSum
import KE.KDictPairs
import KE.DataMinMax
import HandS.SortKw
import KE.DatumOrd
import HandS.CallLocal
import HandS.Strs
import PyProof.Rows.SetFrom
import HandS.Codes
import KE.GoesRaise
import KE.GoesComp
import PyProof.EnumMake
import PyProof.Draws
import KE.GoesMore
import KE.KStateDown
import HandS.Head0
import HandS.Head1
import HandS.Head2
import HandS.HeadEnd
import PySem.Challenge.RW_twinshelves_k20_whole_no_other_text_is_r
set_option Elab.async false
set_option linter.all false
set_option maxRecDepth 100000
set_option maxHeartbeats 0
namespace MM
open PySem L2 PySem.Spec PyProof.Rows
def excCB (K : PySem.W.Frag) (D : Addr) : Bool :=
  He.eqO (PySem.W.findIn K (.ref D) "__getattribute__") (some (some (.builtin "BaseException.__getattribute__"))) && (He.eqO (PySem.W.findIn K (.ref D) "__getattr__") (some none) && (decide (PySem.W.subIn K (.ref D) (.type "BaseException") = some true) && (PySem.W.hasDictIn K D &&
  (He.eqO (PySem.W.findIn K (.ref D) "__class__") (some (some (.builtin "object.__class__"))) && (He.eqO (PySem.W.specialIn K (.builtin "object.__class__") "__get__") (some (some (.builtin "getset_descriptor.__get__"))) && (decide (PySem.W.takesIn K (.builtin "object.__class__") = some true) && decide (PySem.W.mroIn K D (.type "object") = some true)))))))
def obsX (n : Nat) (fa : List He.Fa) (fn : List He.DefD) (ex : PySem.W.Frag → List Bool) (g : Addr → Option Obj) : He.AlD × Bool := (He.obsDG n fa fn g, (ex (He.frG g (He.asD g n))).all id)
def hookX (n : Nat) (fa : List He.Fa) (fn : List He.DefD) (ex : PySem.W.Frag → List Bool) : PySem.W.Hook where
  α := He.AlD × Bool
  obs := fun s => obsX n fa fn ex s.heap.get?
  val := fun _ => (He.valD fn, true)
  says := fun _ h => ∃ K : PySem.W.Frag, K.In h ∧ He.SaysD fa fn K ∧ (ex K).all id = true
  of := fun _ _ e => ⟨_, He.frG_in, congrArg (fun z : He.AlD × Bool => z.1) e, congrArg (fun z : He.AlD × Bool => z.2) e⟩
  keeps := fun _ _ _ ⟨K, hK, c⟩ k => ⟨K, PySem.W.Frag.In.keeps hK k, c⟩
theorem obsX_eq {n : Nat} {fa : List He.Fa} {fn : List He.DefD} {ex : PySem.W.Frag → List Bool} {g : Addr → Option Obj} {s : Shared} (h : ∀ a, g a = s.heap.get? a) : obsX n fa fn ex g = (hookX n fa fn ex).obs s := by
  have e : g = s.heap.get? := funext h
  rw [e] <;> rfl
end MM
namespace LW
open PySem L2 MM
def top (i : Nat) : Stmt := PySem.Challenge.pw_twinshelves_k20_whole_no_other_text_is_r.main.body.getD i (.Pass ⟨0, 0, 0, 0⟩)
abbrev s0 : Stmt := top 28
def d0 : He.DefD := ⟨("_law_cell", none), "_law_cell", "_law_cell", defArgs s0, defBody s0, defScope s0, [], []⟩
abbrev s1 : Stmt := top 29
def d1 : He.DefD := ⟨("_law_mix", none), "_law_mix", "_law_mix", defArgs s1, defBody s1, defScope s1, [], []⟩
abbrev s2 : Stmt := top 33
def d2 : He.DefD := ⟨("_law_known", none), "_law_known", "_law_known", defArgs s2, defBody s2, defScope s2, [], []⟩
abbrev s3 : Stmt := top 30
def d3 : He.DefD := ⟨("_law_name", none), "_law_name", "_law_name", defArgs s3, defBody s3, defScope s3, [], []⟩
abbrev s4 : Stmt := top 31
def d4 : He.DefD := ⟨("_law_text", none), "_law_text", "_law_text", defArgs s4, defBody s4, defScope s4, [], []⟩
abbrev s5 : Stmt := top 34
def d5 : He.DefD := ⟨("_law_marked", none), "_law_marked", "_law_marked", defArgs s5, defBody s5, defScope s5, [], []⟩
abbrev s6 : Stmt := top 36
def d6 : He.DefD := ⟨("_law_file", none), "_law_file", "_law_file", defArgs s6, defBody s6, defScope s6, [], []⟩
abbrev s7 : Stmt := top 37
def d7 : He.DefD := ⟨("_law_mark", none), "_law_mark", "_law_mark", defArgs s7, defBody s7, defScope s7, [], []⟩
abbrev s8 : Stmt := top 38
def d8 : He.DefD := ⟨("_law_written", none), "_law_written", "_law_written", defArgs s8, defBody s8, defScope s8, [], []⟩
abbrev s9 : Stmt := top 35
def d9 : He.DefD := ⟨("_law_which", none), "_law_which", "_law_which", defArgs s9, defBody s9, defScope s9, [], []⟩
abbrev s10 : Stmt := top 41
def d10 : He.DefD := ⟨("_law_changed", none), "_law_changed", "_law_changed", defArgs s10, defBody s10, defScope s10, [], []⟩
abbrev s11 : Stmt := inClass (top 20) 0
def d11 : He.DefD := ⟨("Reader", some "__init__"), "__init__", "Reader.__init__", defArgs s11, defBody s11, defScope s11, [], []⟩
abbrev s12 : Stmt := top 21
def d12 : He.DefD := ⟨("number_of", none), "number_of", "number_of", defArgs s12, defBody s12, defScope s12, [], []⟩
abbrev s13 : Stmt := top 22
def d13 : He.DefD := ⟨("mark_of", none), "mark_of", "mark_of", defArgs s13, defBody s13, defScope s13, [], []⟩
abbrev s14 : Stmt := inClass (top 20) 1
def d14 : He.DefD := ⟨("Reader", some "until"), "until", "Reader.until", defArgs s14, defBody s14, defScope s14, [], []⟩
abbrev s15 : Stmt := inClass (top 20) 2
def d15 : He.DefD := ⟨("Reader", some "signs"), "signs", "Reader.signs", defArgs s15, defBody s15, defScope s15, [], []⟩
abbrev s16 : Stmt := top 25
def d16 : He.DefD := ⟨("texts_at", none), "texts_at", "texts_at", defArgs s16, defBody s16, defScope s16, [], []⟩
abbrev s17 : Stmt := top 24
def d17 : He.DefD := ⟨("named", none), "named", "named", defArgs s17, defBody s17, defScope s17, [], []⟩
abbrev s18 : Stmt := top 23
def d18 : He.DefD := ⟨("listed", none), "listed", "listed", defArgs s18, defBody s18, defScope s18, [], []⟩
abbrev s19 : Stmt := top 9
def d19 : He.DefD := ⟨("is_rising", none), "is_rising", "is_rising", defArgs s19, defBody s19, defScope s19, [], []⟩
abbrev s20 : Stmt := top 11
def d20 : He.DefD := ⟨("is_within", none), "is_within", "is_within", defArgs s20, defBody s20, defScope s20, [], []⟩
abbrev s21 : Stmt := top 12
def d21 : He.DefD := ⟨("has_heard", none), "has_heard", "has_heard", defArgs s21, defBody s21, defScope s21, [], []⟩
abbrev s22 : Stmt := top 5
def d22 : He.DefD := ⟨("is_number", none), "is_number", "is_number", defArgs s22, defBody s22, defScope s22, [], []⟩
abbrev s23 : Stmt := top 8
def d23 : He.DefD := ⟨("is_mark", none), "is_mark", "is_mark", defArgs s23, defBody s23, defScope s23, [], []⟩
abbrev s24 : Stmt := top 6
def d24 : He.DefD := ⟨("is_name", none), "is_name", "is_name", defArgs s24, defBody s24, defScope s24, [], []⟩
abbrev s25 : Stmt := top 7
def d25 : He.DefD := ⟨("is_text", none), "is_text", "is_text", defArgs s25, defBody s25, defScope s25, [], []⟩
abbrev s26 : Stmt := top 13
def d26 : He.DefD := ⟨("are_marked", none), "are_marked", "are_marked", defArgs s26, defBody s26, defScope s26, [], []⟩
abbrev s27 : Stmt := top 14
def d27 : He.DefD := ⟨("is_known", none), "is_known", "is_known", defArgs s27, defBody s27, defScope s27, [], []⟩
abbrev s28 : Stmt := top 15
def d28 : He.DefD := ⟨("is_file", none), "is_file", "is_file", defArgs s28, defBody s28, defScope s28, [], []⟩
abbrev s29 : Stmt := top 17
def d29 : He.DefD := ⟨("mark_text", none), "mark_text", "mark_text", defArgs s29, defBody s29, defScope s29, [], []⟩
abbrev s30 : Stmt := top 18
def d30 : He.DefD := ⟨("written", none), "written", "written", defArgs s30, defBody s30, defScope s30, [], []⟩
abbrev s31 : Stmt := top 26
def d31 : He.DefD := ⟨("read", none), "read", "read", defArgs s31, defBody s31, defScope s31, [], []⟩
abbrev s32 : Stmt := top 39
def d32 : He.DefD := ⟨("_law_read", none), "_law_read", "_law_read", defArgs s32, defBody s32, defScope s32, [], []⟩
abbrev s33 : Stmt := top 32
def d33 : He.DefD := ⟨("_law_same", none), "_law_same", "_law_same", defArgs s33, defBody s33, defScope s33, [], []⟩
abbrev s34 : Stmt := top 40
def d34 : He.DefD := ⟨("_law_is_told", none), "_law_is_told", "_law_is_told", defArgs s34, defBody s34, defScope s34, [], []⟩
abbrev s35 : Stmt := top 42
def d35 : He.DefD := ⟨("law", none), "law", "law", defArgs s35, defBody s35, defScope s35, [], []⟩
def fn : List He.DefD := [d0, d1, d2, d3, d4, d5, d6, d7, d8, d9, d10, d11, d12, d13, d14, d15, d16, d17, d18, d19, d20, d21, d22, d23, d24, d25, d26, d27, d28, d29, d30, d31, d32, d33, d34, d35]
def fa : List He.Fa := [.glo "_law_cell",
  .glo "_law_mix",
  .glo "_law_known",
  .glo "_law_name",
  .glo "_law_text",
  .glo "_law_marked",
  .glo "_law_file",
  .glo "_law_mark",
  .glo "_law_written",
  .glo "_law_which",
  .glo "_law_changed",
  .glo "number_of",
  .glo "mark_of",
  .glo "texts_at",
  .glo "named",
  .glo "listed",
  .glo "is_rising",
  .glo "is_within",
  .glo "has_heard",
  .glo "is_number",
  .glo "is_mark",
  .glo "is_name",
  .glo "is_text",
  .glo "are_marked",
  .glo "is_known",
  .glo "is_file",
  .glo "mark_text",
  .glo "written",
  .glo "read",
  .glo "_law_read",
  .glo "_law_same",
  .glo "_law_is_told",
  .glo "law",
  .free "len",
  .free "isinstance",
  .free "all",
  .free "any",
  .free "range",
  .free "sorted",
  .free "tuple",
  .free "str",
  .free "int",
  .free "bool",
  .free "zip",
  .free "enumerate",
  .str "LETTERS" "abcdefghijklmnopqrstuvwxyz",
  .glo "Reader",
  .cls "Reader",
  .mkr "Reader",
  .meth "Reader" "until",
  .meth "Reader" "signs",
  .noat "Reader" "text",
  .noat "Reader" "place",
  .glo "ShelfError",
  .exc "ShelfError",
  .glo "NoWriting",
  .exc "NoWriting",
  .exm "ShelfError" "ShelfError" true,
  .exm "NoWriting" "ShelfError" true]
def ex (K : PySem.W.Frag) : List Bool := [excCB K (He.ga K "NoWriting"),
  decide (PySem.W.kitOne K (.ref (He.ga K "NoWriting")) (.ref (He.ga K "NoWriting")) = some true)]
def loose0 : List PySem.Str := ["__name__", "ShelfError", "NoWriting", "LETTERS", "is_number", "is_name", "is_text", "is_mark", "is_rising", "is_within", "has_heard", "are_marked", "is_known", "is_file", "mark_text", "written", "Reader", "number_of", "mark_of", "listed"]
def loose1 : List PySem.Str := ["named", "texts_at", "read", "_law_cell", "_law_mix", "_law_name", "_law_text", "_law_same", "_law_known", "_law_marked", "_law_which", "_law_file", "_law_mark", "_law_written", "_law_read", "_law_is_told", "_law_changed"]
def loose : List PySem.Str := loose0 ++ loose1
abbrev R : PySem.W.OpenRow := PySem.W.OpenLaw.row PySem.Challenge.rw_twinshelves_k20_whole_no_other_text_is_r
abbrev hk : PySem.W.Hook := MM.hookX 5 fa fn ex
def ob (s : PySem.W.SharedT) : He.AlD × Bool := MM.obsX 5 fa fn ex (HandSHeadRun.getT s)
theorem ob_eq (s : PySem.W.SharedT) : ob s = hk.obs s.abs := MM.obsX_eq (HandSHeadRun.getT_eq s)
theorem run (w : World) : HandSHeadRun.RunEq R (PySem.W.view R.prog [42]) hk ob 20000 loose w := by
  intro os
  kernel_rfl
end LW
namespace MM
open PySem L2
/-- a value: data (a tuple, a frozen list), or a mutable object, or a def -/
inductive Val where
  | non | bl (b : Bool) | int (i : Int) | str (x : Str)
  | tup (xs : List Val) | lst (xs : List Val)
  | ref (n : Nat) | fn (n : Nat) | ty (n : String)
  | scr (ns : List Int)
  | ptup (xs : List Val)
instance : Inhabited Val := ⟨.non⟩
/-- a mutable object; lK, lT: a dict that is walked -/
inductive Ob where
  | lst (xs : List Val)
  | dK (kvs : List (Key × Val))
  | dT (kvs : List (List Key × Val))
  | ins (c : Nat) (vs : List Val)
  | lK (kvs : List (Key × Val))
  | lT (kvs : List (List Key × Val))
  | dN (ks : List ((Int × Int) × Int))
abbrev HM := List Ob
/-- where classes, exceptions and defs stand -/
structure Glob where
  cls : Nat → Option Addr
  flds : Nat → List Str
  exc : Nat → Option Addr
  fn : Nat → Option Addr
  K : PySem.W.Frag
/-- the mutable objects' addresses by number; hid: lists that are just being made -/
structure Ad where
  ix : List Addr
  hid : List Addr := []
  lk : List Addr := []
def Ad.out (r : Ad) (a : Addr) : Prop := a ∉ r.ix ∧ a ∉ r.hid
/-- the script's list, wherever it stands -/
def ScrV (K : PySem.W.Frag) (r : Ad) (H : Hp) (a : Addr) (ns : List Int) : Prop := (Rd H a (.lst (ns.map V.int)) ∧ r.out a) ∨ ∀ H' : Hp, SqL K H' a (ns.map V.int)
theorem ScrV.sq {K : PySem.W.Frag} {r : Ad} {H : Hp} {a : Addr} {ns : List Int} (h : ScrV K r H a ns) : SqL K H a (ns.map V.int) := by
  rcases h with ⟨h, _⟩ | h
  · exact .inl h
  · exact h H
def Ad.push (r : Ad) (a : Addr) : Ad := { r with ix := r.ix ++ [a] }
mutual
inductive VR (G : Glob) (r : Ad) (H : Hp) : Val → V → Prop
  | non : VR G r H .non .non
  | bl (b : Bool) : VR G r H (.bl b) (.bl b)
  | int (i : Int) : VR G r H (.int i) (.int i)
  | str (x : Str) : VR G r H (.str x) (.str x)
  | tup {a : Addr} {vs : List V} {xs : List Val} : H a = some (.tup vs) → r.out a → VRs G r H xs vs → VR G r H (.tup xs) (.ref a)
  | lst {a : Addr} {vs : List V} {xs : List Val} : H a = some (.lst vs) → r.out a → VRs G r H xs vs → VR G r H (.lst xs) (.ref a)
  | ref {n : Nat} {a : Addr} : r.ix[n]? = some a → VR G r H (.ref n) (.ref a)
  | fn {n : Nat} {a : Addr} : G.fn n = some a → VR G r H (.fn n) (.ref a)
  | ty (n : String) : VR G r H (.ty n) (.ty n)
  | scr {a : Addr} {ns : List Int} : ScrV G.K r H a ns → VR G r H (.scr ns) (.ref a)
  | ptup {a : Addr} {o : Obj} {vs : List V} {xs : List Val} : H a = some (.frz o (.tup vs)) → o.dict = none → r.out a → VRs G r H xs vs → VR G r H (.ptup xs) (.ref a)
inductive VRs (G : Glob) (r : Ad) (H : Hp) : List Val → List V → Prop
  | nil : VRs G r H [] []
  | cons {x : Val} {xs : List Val} {v : V} {vs : List V} : VR G r H x v → VRs G r H xs vs → VRs G r H (x :: xs) (v :: vs)
end
/-- values under keys -/
def KR {κ : Type} (G : Glob) (r : Ad) (H : Hp) : List (κ × Val) → List (κ × V) → Prop := Paired fun p q => p.1 = q.1 ∧ VR G r H p.2 q.2
/-- keys ((a, b), c), each with True under it: what stands at a, by the keys' and their marks' addresses -/
def key3 (k : (Int × Int) × Int) : NestedKey := .tup [.tup [.num k.1.1, .num k.1.2], .num k.2]
abbrev Ent3 := ((Int × Int) × Int) × Addr × Addr
def DN (a : Addr) (xs : List Ent3) (h : Heap) : Prop := (a == sysModules) = false ∧ xs.length ≤ sizeLine ∧ (xs.map (·.1)).Nodup ∧
  ∃ (w : World) (o : Obj) (es : Array DictEntry) (ep : Nat), h.get? a = some o ∧ o.ExactDict ∧ o.data = .dict es ep ∧ es.toList = xs.map fun x => (⟨(key3 x.1).hash w, .ref x.2.1, .bool true⟩ : DictEntry)
/-- the keys' tuples stand -/
def Ky3 (r : Ad) (H : Hp) (x : Ent3) : Prop := H x.2.2 = some (.tup [.int x.1.1.1, .int x.1.1.2]) ∧ r.out x.2.2 ∧ H x.2.1 = some (.tup [.ref x.2.2, .int x.1.2]) ∧ r.out x.2.1
theorem Ky3.ex {r r' : Ad} {H H' : Hp} {x : Ent3} (hk : ∀ (a : Addr) (u : HO), H a = some u → r.out a → H' a = some u ∧ r'.out a) (z : Ky3 r H x) : Ky3 r' H' x :=
  ⟨(hk _ _ z.1 z.2.1).1, (hk _ _ z.1 z.2.1).2, (hk _ _ z.2.2.1 z.2.2.2).1, (hk _ _ z.2.2.1 z.2.2.2).2⟩
inductive ObR (G : Glob) (r : Ad) (H : Hp) (a : Addr) : Ob → Prop
  | lst {xs : List Val} {vs : List V} : H a = some (.lst vs) → VRs G r H xs vs → ObR G r H a (.lst xs)
  | dK {kvs : List (Key × Val)} {kv : List (Key × V)} : H a = some (.dK kv) → KR G r H kvs kv → ObR G r H a (.dK kvs)
  | dT {kvs : List (List Key × Val)} {kv : List (List Key × V)} : H a = some (.dT kv) → KR G r H kvs kv → ObR G r H a (.dT kvs)
  | ins {c : Nat} {C dx : Addr} {vs : List Val} {fv : List (Str × V)} : H a = some (.ins C dx fv) → G.cls c = some C → fv.map (·.1) = (G.flds c).take fv.length → VRs G r H vs (fv.map (·.2)) → ObR G r H a (.ins c vs)
  | lK {o : Obj} {kvs : List (Key × Val)} {kv : List (Key × V)} : H a = some (.frz o (.dK kv)) → KR G r H kvs kv → ObR G r H a (.lK kvs)
  | lT {o : Obj} {kvs : List (List Key × Val)} {kv : List (List Key × V)} : H a = some (.frz o (.dT kv)) → KR G r H kvs kv → ObR G r H a (.lT kvs)
  | dN {ks : List ((Int × Int) × Int)} {xs : List Ent3} : H a = some (.ext (DN a xs)) → ks = xs.map (·.1) → (∀ x ∈ xs, Ky3 r H x) → ObR G r H a (.dN ks)
def isLk : Ob → Bool
  | .lK _ => true
  | .lT _ => true
  | _ => false
structure Rel (G : Glob) (r : Ad) (h : HM) (H : Hp) : Prop where
  nd : r.ix.Nodup
  len : r.ix.length = h.length
  hd : ∀ a ∈ r.hid, a ∉ r.ix ∧ ∃ vs, H a = some (.lst vs)
  ob : ∀ (n : Nat) (a : Addr) (o : Ob), r.ix[n]? = some a → h[n]? = some o → ObR G r H a o
  lk : ∀ a ∈ r.lk, a ∉ r.hid ∧ ∃ o u, H a = some (.frz o u)
  lo : ∀ (n : Nat) (a : Addr) (o : Ob), r.ix[n]? = some a → h[n]? = some o → isLk o = true → a ∈ r.lk
/-- what values lean on stays -/
structure Ex (r : Ad) (H : Hp) (r' : Ad) (H' : Hp) : Prop where
  pre : r.ix <+: r'.ix
  keep : ∀ (a : Addr) (u : HO), H a = some u → r.out a → H' a = some u ∧ r'.out a
/-- what stays: all that is not mutable -/
structure Ext (r : Ad) (H : Hp) (r' : Ad) (H' : Hp) : Prop extends Ex r H r' H' where
  hid : r'.hid = r.hid
  hk : ∀ a ∈ r.hid, H' a = H a
  lkk : r'.lk = r.lk
  lks : ∀ a ∈ r.lk, H' a = H a
abbrev Loc := List (Option Val)
def LR (G : Glob) (r : Ad) (H : Hp) (l : Loc) (s : St) : Prop := l.length = s.length ∧ ∀ (i : Nat) (v : Val), l[i]? = some (some v) → ∃ u, s[i]? = some (some u) ∧ VR G r H v u
section
variable {G : Glob} {r r' r2 : Ad} {H H' H2 : Hp} {h h' : HM}
theorem Ext.refl : Ext r H r H := ⟨⟨List.prefix_refl _, fun _ _ e n => ⟨e, n⟩⟩, rfl, fun _ _ => rfl, rfl, fun _ _ => rfl⟩
theorem Ex.trans (a : Ex r H r' H') (b : Ex r' H' r2 H2) : Ex r H r2 H2 := ⟨a.pre.trans b.pre, fun c u e n => let z := a.keep c u e n; b.keep c u z.1 z.2⟩
theorem Ext.trans (a : Ext r H r' H') (b : Ext r' H' r2 H2) : Ext r H r2 H2 := ⟨a.toEx.trans b.toEx, b.hid.trans a.hid, fun c m => (b.hk c (by rw [a.hid]; exact m)).trans (a.hk c m), b.lkk.trans a.lkk, fun c m => (b.lks c (by rw [a.lkk]; exact m)).trans (a.lks c m)⟩
theorem Ex.rd (e : Ex r H r' H') {a : Addr} {u : HO} (d : Rd H a u) (n : r.out a) : Rd H' a u ∧ r'.out a := by
  rcases d with d | ⟨o, d⟩
  · exact ⟨.inl (e.keep _ _ d n).1, (e.keep _ _ d n).2⟩
  · exact ⟨.inr ⟨o, (e.keep _ _ d n).1⟩, (e.keep _ _ d n).2⟩
theorem pre_get {r r' : List Addr} (p : r <+: r') {n : Nat} {a : Addr} (e : r[n]? = some a) : r'[n]? = some a := by
  obtain ⟨t, rfl⟩ := p
  have hn : n < r.length := (List.getElem?_eq_some_iff.mp e).1
  rw [List.getElem?_append_left hn]; exact e
mutual
theorem VR.ex (e : Ex r H r' H') : ∀ {x : Val} {v : V}, VR G r H x v → VR G r' H' x v
  | _, _, .non => .non
  | _, _, .bl b => .bl b
  | _, _, .int i => .int i
  | _, _, .str x => .str x
  | _, _, .tup d n q => .tup (e.keep _ _ d n).1 (e.keep _ _ d n).2 (VRs.ex e q)
  | _, _, .lst d n q => .lst (e.keep _ _ d n).1 (e.keep _ _ d n).2 (VRs.ex e q)
  | _, _, .ref q => .ref (pre_get e.pre q)
  | _, _, .fn q => .fn q
  | _, _, .ty n => .ty n
  | _, _, .ptup d z n q => .ptup (e.keep _ _ d n).1 z (e.keep _ _ d n).2 (VRs.ex e q)
  | _, _, .scr q => .scr (q.imp (fun z => e.rd z.1 z.2) fun z => z)
theorem VRs.ex (e : Ex r H r' H') : ∀ {xs : List Val} {vs : List V}, VRs G r H xs vs → VRs G r' H' xs vs
  | _, _, .nil => .nil
  | _, _, .cons q t => .cons (VR.ex e q) (VRs.ex e t)
end
theorem VR.ext (e : Ext r H r' H') {x : Val} {v : V} (q : VR G r H x v) : VR G r' H' x v := VR.ex e.toEx q
theorem VRs.ext (e : Ext r H r' H') {xs : List Val} {vs : List V} (q : VRs G r H xs vs) : VRs G r' H' xs vs := VRs.ex e.toEx q
theorem KR.ex {κ : Type} (e : Ex r H r' H') {x : List (κ × Val)} {y : List (κ × V)} (q : KR G r H x y) : KR G r' H' x y := Paired.mapP q fun _ _ z => ⟨z.1, z.2.ex e⟩
theorem LR.ex (e : Ex r H r' H') {l : Loc} {s : St} (q : LR G r H l s) : LR G r' H' l s := ⟨q.1, fun i v z => let ⟨u, a, b⟩ := q.2 i v z; ⟨u, a, b.ex e⟩⟩
theorem KR.ext {κ : Type} (e : Ext r H r' H') {x : List (κ × Val)} {y : List (κ × V)} (q : KR G r H x y) : KR G r' H' x y := Paired.mapP q fun _ _ z => ⟨z.1, z.2.ext e⟩
theorem LR.ext (e : Ext r H r' H') {l : Loc} {s : St} (q : LR G r H l s) : LR G r' H' l s := ⟨q.1, fun i v z => let ⟨u, a, b⟩ := q.2 i v z; ⟨u, a, b.ext e⟩⟩
theorem VRs.length {xs : List Val} {vs : List V} (q : VRs G r H xs vs) : xs.length = vs.length := by
  induction xs generalizing vs with
  | nil => cases q; rfl
  | cons x xs ih => cases q with | cons a b => simp [ih b]
theorem VRs.get {xs : List Val} {vs : List V} (q : VRs G r H xs vs) {i : Nat} {x : Val} (e : xs[i]? = some x) : ∃ v, vs[i]? = some v ∧ VR G r H x v := by
  induction xs generalizing vs i with
  | nil => simp at e
  | cons y ys ih =>
    cases q with
    | cons a b =>
      cases i with
      | zero => simp at e; subst e; exact ⟨_, rfl, a⟩
      | succ i => exact ih b (by simpa using e)
theorem VRs.append {xs ys : List Val} {vs ws : List V} (q : VRs G r H xs vs) (t : VRs G r H ys ws) : VRs G r H (xs ++ ys) (vs ++ ws) := by
  induction xs generalizing vs with
  | nil => cases q; exact t
  | cons x xs ih => cases q with | cons a b => exact .cons a (ih b)
theorem VRs.take {xs : List Val} {vs : List V} (q : VRs G r H xs vs) (n : Nat) : VRs G r H (xs.take n) (vs.take n) := by
  induction xs generalizing vs n with
  | nil => cases q; simp; exact .nil
  | cons x xs ih =>
    cases q with
    | cons a b =>
      cases n with
      | zero => exact .nil
      | succ n => exact .cons a (ih b n)
theorem VRs.drop {xs : List Val} {vs : List V} (q : VRs G r H xs vs) (n : Nat) : VRs G r H (xs.drop n) (vs.drop n) := by
  induction xs generalizing vs n with
  | nil => cases q; simp; exact .nil
  | cons x xs ih =>
    cases q with
    | cons a b =>
      cases n with
      | zero => exact .cons a b
      | succ n => exact ih b n
theorem VRs.set {xs : List Val} {vs : List V} (q : VRs G r H xs vs) (n : Nat) {x : Val} {v : V} (z : VR G r H x v) : VRs G r H (xs.set n x) (vs.set n v) := by
  induction xs generalizing vs n with
  | nil => cases q; exact .nil
  | cons y ys ih =>
    cases q with
    | cons a b =>
      cases n with
      | zero => exact .cons z b
      | succ n => exact .cons a (ih b n)
theorem Rel.at_ (q : Rel G r h H) {n : Nat} {a : Addr} (e : r.ix[n]? = some a) : ∃ o, h[n]? = some o ∧ ObR G r H a o := by
  have hn : n < h.length := by rw [← q.len]; exact (List.getElem?_eq_some_iff.mp e).1
  exact ⟨h[n], by simp [hn], q.ob n a _ e (by simp [hn])⟩
theorem Rel.adr (q : Rel G r h H) {n : Nat} {o : Ob} (e : h[n]? = some o) : ∃ a, r.ix[n]? = some a ∧ ObR G r H a o := by
  have hn : n < r.ix.length := by rw [q.len]; exact (List.getElem?_eq_some_iff.mp e).1
  exact ⟨r.ix[n], by simp [hn], q.ob n _ o (by simp [hn]) e⟩
theorem ObR.some {a : Addr} {o : Ob} (q : ObR G r H a o) : ∃ u, H a = some u := by
  cases q <;> exact ⟨_, by assumption⟩
theorem Rel.there (q : Rel G r h H) {a : Addr} (m : a ∈ r.ix) : ∃ u, H a = some u := by
  obtain ⟨n, hn, e⟩ := List.mem_iff_getElem.mp m
  obtain ⟨o, _, ob⟩ := q.at_ (n := n) (a := a) (by simp [hn, e])
  exact ob.some
theorem Rel.hid (q : Rel G r h H) (a : Addr) (m : a ∈ r.hid) : a ∉ r.ix ∧ H a ≠ none := ⟨(q.hd a m).1, fun e => by
  obtain ⟨vs, z⟩ := (q.hd a m).2
  rw [e] at z; cases z⟩
theorem Rel.new (q : Rel G r h H) {p : Addr} (e : H p = none) : r.out p := ⟨(fun m => by
  obtain ⟨u, z⟩ := q.there m
  rw [e] at z
  cases z), fun m => (q.hid p m).2 e⟩
theorem Rel.lk_there (q : Rel G r h H) {a : Addr} (m : a ∈ r.lk) : H a ≠ none := by
  obtain ⟨_, o, u, e⟩ := q.lk a m
  rw [e]; simp
theorem Rel.lk_upd (q : Rel G r h H) {p : Addr} {o : HO} (e : ∀ o u, H p ≠ some (.frz o u)) : ∀ a ∈ r.lk, a ∉ r.hid ∧ ∃ o' u, upd H p o a = some (.frz o' u) := fun a m => by
  obtain ⟨n, o', u, z⟩ := q.lk a m
  refine ⟨n, o', u, ?_⟩
  have hne : a ≠ p := fun x => e o' u (by rw [← x]; exact z)
  rw [upd_ne hne]
  exact z
theorem nofrz_none {p : Addr} (e : H p = none) : ∀ o u, H p ≠ some (.frz o u) := fun o u z => by rw [e] at z; cases z
theorem ext_new (q : Rel G r h H) {p : Addr} {o : HO} (e : H p = none) : Ext r H r (upd H p o) := ⟨⟨List.prefix_refl _, fun a u z n => ⟨by rw [upd_ne (ne_of_none z e)]; exact z, n⟩⟩, rfl, fun a m => upd_ne fun z => (q.hid a m).2 (z ▸ e), rfl, fun a m => upd_ne fun z => (q.lk_there m) (z ▸ e)⟩
theorem ObR.ex {a : Addr} {o : Ob} (q : ObR G r H a o) (e : Ex r H r' H') (k : H' a = H a) : ObR G r' H' a o := by
  cases q with
  | lst h1 h2 => exact .lst (k.trans h1) (h2.ex e)
  | dK h1 h2 => exact .dK (k.trans h1) (h2.ex e)
  | dT h1 h2 => exact .dT (k.trans h1) (h2.ex e)
  | ins h1 h2 h3 h4 => exact .ins (k.trans h1) h2 h3 (h4.ex e)
  | lK h1 h2 => exact .lK (k.trans h1) (h2.ex e)
  | lT h1 h2 => exact .lT (k.trans h1) (h2.ex e)
  | dN h1 h2 h3 => exact .dN (k.trans h1) h2 fun x hx => (h3 x hx).ex e.keep
theorem ObR.ext {a : Addr} {o : Ob} (q : ObR G r H a o) (e : Ext r H r' H') (k : H' a = H a) : ObR G r' H' a o := q.ex e.toEx k
/-- a new thing that is no mutable object -/
theorem Rel.laid (q : Rel G r h H) {p : Addr} {o : HO} (e : H p = none) : Rel G r h (upd H p o) := ⟨q.nd, q.len, fun a m => ⟨(q.hid a m).1, by
    have hne : a ≠ p := fun z => (q.hid a m).2 (by rw [z]; exact e)
    rw [upd_ne hne]; exact (q.hd a m).2⟩, fun n a u h1 h2 =>
  (q.ob n a u h1 h2).ext (ext_new q e) (by
    have m : a ∈ r.ix := List.mem_of_getElem? h1
    rw [upd_ne]
    exact fun z => (q.new e).1 (z ▸ m)), q.lk_upd (nofrz_none e), q.lo⟩
/-- a new mutable object -/
theorem ext_alloc (q : Rel G r h H) {p : Addr} {o : HO} (e : H p = none) : Ext r H (r.push p) (upd H p o) := ⟨⟨List.prefix_append _ _, fun a u z n => ⟨by rw [upd_ne (ne_of_none z e)]; exact z, by
  refine ⟨?_, n.2⟩
  simp only [Ad.push, List.mem_append, List.mem_singleton, not_or]
  exact ⟨n.1, ne_of_none z e⟩⟩⟩, rfl, fun a m => upd_ne fun z => (q.hid a m).2 (z ▸ e), rfl, fun a m => upd_ne fun z => (q.lk_there m) (z ▸ e)⟩
theorem Rel.alloc (q : Rel G r h H) {p : Addr} {o : HO} {u : Ob} (e : H p = none) (z : ObR G (r.push p) (upd H p o) p u) (hu : isLk u = false := by rfl) : Rel G (r.push p) (h ++ [u]) (upd H p o) := by
  refine ⟨?_, by simp [Ad.push, q.len], fun a m => ?_, fun n a w h1 h2 => ?_, q.lk_upd (nofrz_none e), fun n a w h1 h2 hw => ?_⟩
  · simp only [Ad.push]
    rw [List.nodup_append]
    refine ⟨q.nd, by simp, fun a ha b hb => ?_⟩
    simp at hb
    subst hb
    exact fun z => (q.new e).1 (z ▸ ha)
  · have hne : a ≠ p := fun z => (q.hid a m).2 (z ▸ e)
    refine ⟨?_, by rw [upd_ne hne]; exact (q.hd a m).2⟩
    simp only [Ad.push, List.mem_append, List.mem_singleton, not_or]
    exact ⟨(q.hid a m).1, hne⟩
  · have h1 : (r.ix ++ [p])[n]? = .some a := h1
    by_cases hn : n < r.ix.length
    · rw [List.getElem?_append_left hn] at h1
      rw [List.getElem?_append_left (by rw [← q.len]; exact hn)] at h2
      refine (q.ob n a w h1 h2).ext (ext_alloc q e) ?_
      have m : a ∈ r.ix := List.mem_of_getElem? h1
      rw [upd_ne]
      exact fun z => (q.new e).1 (z ▸ m)
    · have hn' : n = r.ix.length := by
        have := (List.getElem?_eq_some_iff.mp h1).1
        simp at this
        omega
      subst hn'
      rw [List.getElem?_append_right (Nat.le_refl _)] at h1
      rw [q.len, List.getElem?_append_right (Nat.le_refl _)] at h2
      simp at h1 h2
      subst h1 h2
      exact z
  · have h1 : (r.ix ++ [p])[n]? = .some a := h1
    by_cases hn : n < r.ix.length
    · rw [List.getElem?_append_left hn] at h1
      rw [List.getElem?_append_left (by rw [← q.len]; exact hn)] at h2
      exact q.lo n a w h1 h2 hw
    · have hn' : n = r.ix.length := by
        have := (List.getElem?_eq_some_iff.mp h1).1
        simp at this
        omega
      subst hn'
      rw [q.len, List.getElem?_append_right (Nat.le_refl _)] at h2
      simp at h2
      subst h2
      rw [hu] at hw; cases hw
theorem nodup_ixA {N : List Addr} (hN : N.Nodup) {i j : Nat} {x : Addr} (a : N[i]? = some x) (b : N[j]? = some x) : i = j := by
  obtain ⟨h1, e1⟩ := List.getElem?_eq_some_iff.mp a
  obtain ⟨h2, e2⟩ := List.getElem?_eq_some_iff.mp b
  exact (List.getElem_inj hN).mp (e1.trans e2.symm)
/-- a mutable object is written -/
theorem ext_write (q : Rel G r h H) {n : Nat} {a : Addr} {o : HO} (hn : r.ix[n]? = some a) (nf : ∀ o u, H a ≠ some (.frz o u)) : Ext r H r (upd H a o) := ⟨⟨List.prefix_refl _, fun b u z m => ⟨by
  have : b ≠ a := fun e => m.1 (e ▸ List.mem_of_getElem? hn)
  rw [upd_ne this]; exact z, m⟩⟩, rfl, fun b m => upd_ne fun e => (q.hid b m).1 (e ▸ List.mem_of_getElem? hn), rfl, fun b m => upd_ne fun e => (by
    obtain ⟨_, o', u, z⟩ := q.lk b m
    exact nf o' u (e ▸ z))⟩
theorem Rel.write (q : Rel G r h H) {n : Nat} {a : Addr} {o : HO} {u : Ob} (hn : r.ix[n]? = some a) (nf : ∀ o u, H a ≠ some (.frz o u)) (z : ObR G r (upd H a o) a u) (hu : isLk u = true → a ∈ r.lk := by intro z; cases z) : Rel G r (h.set n u) (upd H a o) := by
  refine ⟨q.nd, by simp [q.len], fun b m => ⟨(q.hid b m).1, by
    have hne : b ≠ a := fun e => (q.hid b m).1 (by rw [e]; exact List.mem_of_getElem? hn)
    rw [upd_ne hne]; exact (q.hd b m).2⟩, fun m b w h1 h2 => ?_, q.lk_upd nf, fun m b w h1 h2 hw => ?_⟩
  rotate_left
  · by_cases e : m = n
    · subst e
      rw [hn] at h1; cases h1
      have hl : m < h.length := by rw [← q.len]; exact (List.getElem?_eq_some_iff.mp hn).1
      rw [List.getElem?_set_self hl] at h2
      cases h2
      exact hu hw
    · rw [List.getElem?_set_ne (Ne.symm e)] at h2
      exact q.lo m b w h1 h2 hw
  by_cases e : m = n
  · subst e
    rw [hn] at h1; cases h1
    have hl : m < h.length := by rw [← q.len]; exact (List.getElem?_eq_some_iff.mp hn).1
    rw [List.getElem?_set_self hl] at h2
    cases h2
    exact z
  · rw [List.getElem?_set_ne (Ne.symm e)] at h2
    refine (q.ob m b w h1 h2).ext (ext_write q hn nf) ?_
    rw [upd_ne]
    intro z2
    subst z2
    exact e (nodup_ixA q.nd h1 hn)
def Ad.hide (r : Ad) (D : Addr) : Ad := { r with hid := D :: r.hid }
theorem ex_hide {D : Addr} {o : HO} (e : H D = none) : Ex r H (r.hide D) (upd H D o) := ⟨List.prefix_refl _, fun a u z n => by
  have hne := ne_of_none z e
  refine ⟨by rw [upd_ne hne]; exact z, n.1, ?_⟩
  simp only [Ad.hide, List.mem_cons, not_or]
  exact ⟨hne, n.2⟩⟩
theorem Rel.hide (q : Rel G r h H) {D : Addr} {ys : List V} (e : H D = none) : Rel G (r.hide D) h (upd H D (.lst ys)) := by
  refine ⟨q.nd, q.len, fun a m => ?_, fun n a u h1 h2 => (q.ob n a u h1 h2).ex (ex_hide e) ?_, fun a m => ?_, q.lo⟩
  · simp only [Ad.hide, List.mem_cons] at m
    by_cases ha : a = D
    · subst ha
      exact ⟨(q.new e).1, ys, upd_same⟩
    · have m' : a ∈ r.hid := m.resolve_left ha
      exact ⟨(q.hid a m').1, by rw [upd_ne ha]; exact (q.hd a m').2⟩
  · have m : a ∈ r.ix := List.mem_of_getElem? h1
    rw [upd_ne]
    exact fun z => (q.new e).1 (z ▸ m)
  · have hl := q.lk_upd (o := .lst ys) (nofrz_none e) a m
    refine ⟨fun z => ?_, hl.2⟩
    simp only [Ad.hide, List.mem_cons] at z
    rcases z with z | z
    · exact q.lk_there m (z ▸ e)
    · exact hl.1 z
/-- the hidden list grows -/
theorem ex_grow {D : Addr} {o : HO} (m : D ∈ r.hid) : Ex r H r (upd H D o) := ⟨List.prefix_refl _, fun a u z n => by
  have hne : a ≠ D := fun e => n.2 (e ▸ m)
  exact ⟨by rw [upd_ne hne]; exact z, n⟩⟩
theorem Rel.grow (q : Rel G r h H) {D : Addr} {ys : List V} (m : D ∈ r.hid) : Rel G r h (upd H D (.lst ys)) := by
  refine ⟨q.nd, q.len, fun a m' => ⟨(q.hid a m').1, ?_⟩, fun n a u h1 h2 => (q.ob n a u h1 h2).ex (ex_grow m) ?_, fun a m' => ?_, q.lo⟩
  · by_cases ha : a = D
    · subst ha; exact ⟨ys, upd_same⟩
    · rw [upd_ne ha]; exact (q.hd a m').2
  · have m2 : a ∈ r.ix := List.mem_of_getElem? h1
    rw [upd_ne]
    intro z
    subst z
    exact (q.hid _ m).1 m2
  · obtain ⟨n, o', u, z⟩ := q.lk a m'
    refine ⟨n, o', u, ?_⟩
    have hne : a ≠ D := fun x => n (by rw [x]; exact m)
    rw [upd_ne hne]
    exact z
def Ad.show_ (r : Ad) (hs : List Addr) : Ad := { r with hid := hs }
theorem ex_show {D : Addr} {hs : List Addr} (e : r.hid = D :: hs) : Ex r H (r.show_ hs) H := ⟨List.prefix_refl _, fun a u z n => ⟨z, n.1, fun m => n.2 (by rw [e]; exact List.mem_cons_of_mem _ m)⟩⟩
theorem Rel.show_ (q : Rel G r h H) {D : Addr} {hs : List Addr} (e : r.hid = D :: hs) : Rel G (r.show_ hs) h H :=
  ⟨q.nd, q.len, fun a m => q.hd a (by rw [e]; exact List.mem_cons_of_mem _ m), fun n a u h1 h2 => (q.ob n a u h1 h2).ex (ex_show e) rfl, fun a m => ⟨fun z => (q.lk a m).1 (by rw [e]; exact List.mem_cons_of_mem _ z), (q.lk a m).2⟩, q.lo⟩
/-- from ahead of the making to behind it -/
theorem ext_made {D : Addr} {o : HO} (q : Rel G r h H) (e : H D = none) (x : Ex (r.hide D) (upd H D o) r2 H2) (hh : r2.hid = D :: r.hid) (hk : ∀ a ∈ r.hid, H2 a = H a) (lkk : r2.lk = r.lk) (lks : ∀ a ∈ r.lk, H2 a = H a) : Ext r H (r2.show_ r.hid) H2 :=
  ⟨((ex_hide e).trans x).trans (ex_show hh), rfl, hk, lkk, lks⟩
end
end MM
namespace MM
open PySem L2
inductive Res (α : Type) where
  | ok (a : α) (h : HM) | exc (c : Nat) (h : HM) | bad
inductive SRes where
  | nx (l : Loc) (h : HM) | rt (v : Val) (h : HM) | exc (c : Nat) (l : Loc) (h : HM) | bad
def Res.bind {α β : Type} (r : Res α) (k : α → HM → Res β) : Res β := match r with
  | .ok a h => k a h | .exc c h => .exc c h | .bad => .bad
@[simp] theorem Res.bind_ok {α β : Type} (a : α) (h : HM) (k : α → HM → Res β) : (Res.ok a h).bind k = k a h := (rfl)
@[simp] theorem Res.bind_exc {α β : Type} (c : Nat) (h : HM) (k : α → HM → Res β) : (Res.exc c h : Res α).bind k = .exc c h := (rfl)
@[simp] theorem Res.bind_bad {α β : Type} (k : α → HM → Res β) : (Res.bad : Res α).bind k = .bad := (rfl)
abbrev EM := Loc → HM → Res Val
abbrev TM := Loc → HM → Res Bool
abbrev AM := Loc → HM → Res (List Val)
abbrev SM := Loc → HM → SRes
abbrev FM := List Val → HM → Res Val
/-- an expression's result, as a statement goes on with it -/
def Res.thn (r : Res α) (l : Loc) (k : α → HM → SRes) : SRes := match r with
  | .ok a h => k a h | .exc c h => .exc c l h | .bad => .bad
@[simp] theorem Res.thn_ok {α : Type} (a : α) (h : HM) (l : Loc) (k : α → HM → SRes) : (Res.ok a h).thn l k = k a h := (rfl)
@[simp] theorem Res.thn_exc {α : Type} (c : Nat) (h : HM) (l : Loc) (k : α → HM → SRes) : (Res.exc c h : Res α).thn l k = .exc c l h := (rfl)
@[simp] theorem Res.thn_bad {α : Type} (l : Loc) (k : α → HM → SRes) : (Res.bad : Res α).thn l k = .bad := (rfl)
section
variable (G : Glob) (W : WX) (r : Ad) (H : Hp) (s : St)
def Post {α β : Type} (R : Ad → Hp → α → β → Prop) (Q : β → Hp → Prop) : Res α → Prop
  | .ok a h' => ∀ r' H' b, Ext r H r' H' → Rel G r' h' H' → R r' H' a b → Q b H'
  | .exc c h' => ∀ r' H' C, Ext r H r' H' → Rel G r' h' H' → G.exc c = some C → W (.ref C) none s H'
  | .bad => False
def PostS (D : Ends) : SRes → Prop
  | .nx l h' => ∀ r' H' s', Ext r H r' H' → Rel G r' h' H' → LR G r' H' l s' → D.nx s' H'
  | .rt v h' => ∀ r' H' u, Ext r H r' H' → Rel G r' h' H' → VR G r' H' v u → D.rt u H'
  | .exc c l h' => ∀ r' H' s' C, Ext r H r' H' → Rel G r' h' H' → LR G r' H' l s' → G.exc c = some C → W (.ref C) none s' H'
  | .bad => False
end
def REq {α : Type} : Ad → Hp → α → α → Prop := fun _ _ a b => b = a
section
variable (G : Glob) (W : WX)
def tE (m : EM) : TE := fun s H Q => ∃ r h l, Rel G r h H ∧ LR G r H l s ∧ Post G W r H s (VR G) Q (m l h)
def tT (m : TM) : TT := fun s H Q => ∃ r h l, Rel G r h H ∧ LR G r H l s ∧ Post G W r H s REq Q (m l h)
def tA (m : AM) : TA := fun s H Q => ∃ r h l, Rel G r h H ∧ LR G r H l s ∧ Post G W r H s (VRs G) Q (m l h)
def tS (m : SM) : TS := fun D s H => ∃ r h l, Rel G r h H ∧ LR G r H l s ∧ PostS G W r H D (m l h)
end
section
variable (X : Cx) (G : Glob) (W : WX)
abbrev ME (e : Expr) (m : EM) : Prop := PE X e (tE G W m)
abbrev MT (e : Expr) (m : TM) : Prop := PT X e (tT G W m)
abbrev MW (e : Expr) (m : TM) : Prop := PW X e (tT G W m)
abbrev MA (es : List Expr) (m : AM) : Prop := PA X es (tA G W m)
abbrev MS (st : Stmt) (m : SM) : Prop := PS X st (tS G W m)
abbrev MSs (st : List Stmt) (m : SM) : Prop := PSs X st (tS G W m)
end
section
variable {X : Cx} {G : Glob} {W : WX} {r r1 : Ad} {H H1 : Hp} {h : HM} {l : Loc} {s : St}
theorem Post.shift {α β : Type} {R : Ad → Hp → α → β → Prop} {Q : β → Hp → Prop} {x : Res α} (e : Ext r H r1 H1) (p : Post G W r H s R Q x) : Post G W r1 H1 s R Q x := by
  cases x with
  | ok a h' => exact fun r' H' b e' => p r' H' b (e.trans e')
  | exc c h' => exact fun r' H' C e' => p r' H' C (e.trans e')
  | bad => exact p
theorem PostS.shift {D : Ends} {x : SRes} (e : Ext r H r1 H1) (p : PostS G W r H D x) : PostS G W r1 H1 D x := by
  cases x with
  | nx l h' => exact fun r' H' s' e' => p r' H' s' (e.trans e')
  | rt v h' => exact fun r' H' b e' => p r' H' b (e.trans e')
  | exc c l h' => exact fun r' H' s' C e' => p r' H' s' C (e.trans e')
  | bad => exact p
/-- what is known between two parts -/
def Mid (G : Glob) (W : WX) (r : Ad) (H : Hp) {α β : Type} (R : Ad → Hp → α → β → Prop) (P : Ad → Hp → α → HM → Prop) : β → Hp → Prop :=
  fun b H1 => ∃ r1 h1 a, Ext r H r1 H1 ∧ Rel G r1 h1 H1 ∧ R r1 H1 a b ∧ P r1 H1 a h1
theorem Post.bind {α β γ δ : Type} {R1 : Ad → Hp → α → β → Prop} {R2 : Ad → Hp → γ → δ → Prop} {Q : δ → Hp → Prop} {x : Res α} {k : α → HM → Res γ}
    (p : Post G W r H s R2 Q (x.bind k)) : Post G W r H s R1 (Mid G W r H R1 fun r1 H1 a h1 => Post G W r1 H1 s R2 Q (k a h1)) x := by
  cases x with
  | ok a h' => exact fun r' H' b e q z => ⟨r', h', a, e, q, z, Post.shift e p⟩
  | exc c h' => exact p
  | bad => exact p
theorem Post.thn {α β : Type} {R1 : Ad → Hp → α → β → Prop} {D : Ends} {x : Res α} {k : α → HM → SRes} (hl : LR G r H l s)
    (p : PostS G W r H D (x.thn l k)) : Post G W r H s R1 (Mid G W r H R1 fun r1 H1 a h1 => PostS G W r1 H1 D (k a h1)) x := by
  cases x with
  | ok a h' => exact fun r' H' b e q z => ⟨r', h', a, e, q, z, PostS.shift e p⟩
  | exc c h' => exact fun r' H' C e q z => p r' H' s C e q (hl.ext e) z
  | bad => exact p
theorem Post.imp {α β : Type} {R : Ad → Hp → α → β → Prop} {Q Q' : β → Hp → Prop} {x : Res α} (p : Post G W r H s R Q x) (i : ∀ b H', Q b H' → Q' b H') : Post G W r H s R Q' x := by
  cases x with
  | ok a h' => exact fun r' H' b e q z => i _ _ (p r' H' b e q z)
  | exc c h' => exact p
  | bad => exact p
/-- a value as it stands -/
theorem Post.here {α β : Type} {R : Ad → Hp → α → β → Prop} {Q : β → Hp → Prop} {a : α} {b : β} (q : Rel G r h H) (z : R r H a b) (p : Post G W r H s R Q (.ok a h)) : Q b H := p r H b Ext.refl q z
def eVar (i : Nat) : EM := fun l h => match l[i]? with
  | some (some v) => .ok v h
  | _ => .bad
def eC (v : Val) : EM := fun _ h => .ok v h
theorem me_of {e : Expr} {t : TE} {m : EM} (he : PE X e t) (hi : ∀ r h l s H Q, Rel G r h H → LR G r H l s → Post G W r H s (VR G) Q (m l h) → t s H Q) : ME X G W e m :=
  ⟨fun pins s σ H Q I ⟨r, h, l, q, hl, p⟩ => he.run pins s σ H Q I (hi r h l σ H Q q hl p)⟩
theorem me_var {i : Nat} {x : Str} {pos : Pos} (hN : X.N[i]? = some x := by rfl) (hv : Vis X.env.scope x := by first | exact Or.inl rfl | exact Or.inr (Or.inl rfl) | exact Or.inr (Or.inr rfl)) (hd : (x == ("__debug__" : Str)) = false := by decide)
    (hcd : (x == ("__classdict__" : Str)) = false := by decide) : ME X G W (.Name x pos) (eVar i) := me_of (pe_var hN hv hd hcd) fun r h l s H Q q hl p => by
  unfold eVar at p
  split at p
  · rename_i v e
    obtain ⟨u, a, b⟩ := hl.2 i v e
    exact ⟨u, a, Post.here q b p⟩
  · exact p.elim
theorem me_int {i j pos} : ME X G W (.Constant (.int i) j pos) (eC (.int i)) := me_of pe_int fun r h l s H Q q hl p => Post.here q (.int i) p
theorem me_bl {i j pos} : ME X G W (.Constant (.bool i) j pos) (eC (.bl i)) := me_of pe_bl fun r h l s H Q q hl p => Post.here q (.bl i) p
theorem me_non {j pos} : ME X G W (.Constant .none j pos) (eC .non) := me_of pe_non fun r h l s H Q q hl p => Post.here q .non p
theorem me_str {x j pos} : ME X G W (.Constant (.str x) j pos) (eC (.str x)) := me_of pe_str fun r h l s H Q q hl p => Post.here q (.str x) p
/-- a def of the module, as a value -/
theorem me_fn {n : Nat} {x : Str} {a : Addr} {pos : Pos} (hg : Gl X x) (hm : X.mg x = some (.ref a)) (hf : G.fn n = some a) (hd : (x == ("__debug__" : Str)) = false := by decide) : ME X G W (.Name x pos) (eC (.fn n)) :=
  me_of (pe_glob (v := .ref a) hg hm rfl hd) fun r h l s H Q q hl p => Post.here q (.fn hf) p
/-- a text of the module -/
theorem me_gstr {x z : Str} {t : Tok} {pos : Pos} (hg : Gl X x) (hm : X.mg x = some (.str z t)) (hd : (x == ("__debug__" : Str)) = false := by decide) : ME X G W (.Name x pos) (eC (.str z)) :=
  me_of (pe_glob (v := .str z) hg hm ⟨t, rfl⟩ hd) fun r h l s H Q q hl p => Post.here q (.str z) p
/-- an operation on two values -/
abbrev VOp := Val → Val → HM → Res Val
def OpM (X : Cx) (G : Glob) (f : Value → Value → Sem Value) (g : VOp) : Prop :=
  ∀ (W : WX) (pins : List (Addr × Obj)) (s : Shared) (σ : St) (H : Hp) (r : Ad) (h : HM) (a b : Val) (x y : V) (v u : Value) (Q : VK), Inv X pins σ H s → Rel G r h H → VR G r H a x → VR G r H b y → RelV x v → RelV y u →
    Post G W r H σ (VR G) Q (g a b h) → wpAny (model X.prog X.w) X.A (f v u) (EP X pins σ Q) X.xe s
def e2 (g : VOp) (a b : EM) : EM := fun l h => (a l h).bind fun x h1 => (b l h1).bind fun y h2 => g x y h2
theorem OpM.of {f : Value → Value → Sem Value} {t : R2} {g : VOp} (o : OpR X f t) (i : ∀ W r h H s a b x y Q, Rel G r h H → VR G r H a x → VR G r H b y → Post G W r H s (VR G) Q (g a b h) → t x y H Q) : OpM X G f g :=
  fun W pins s σ H r h a b x y v u Q I q za zb rx ry p => o pins s σ H x y v u Q I rx ry (i W r h H σ a b x y Q q za zb p)
variable {a b c : Expr} {ma mb mc : EM} {pos : Pos}
/-- what stands behind both parts -/
theorem both (ha : ME X G W a ma) (hb : ME X G W b mb) {pins : List (Addr × Obj)} {s : Shared} {σ : St} {H : Hp} {r : Ad} {h : HM} {l : Loc} {γ δ : Type} {R2 : Ad → Hp → γ → δ → Prop} {Q : δ → Hp → Prop} {k : Val → Val → HM → Res γ}
    (I : Inv X pins σ H s) (q : Rel G r h H) (hl : LR G r H l σ) (p : Post G W r H σ R2 Q ((ma l h).bind fun x h1 => (mb l h1).bind fun y h2 => k x y h2))
    {α : Type} {QQ : α → Shared → Prop} {f : Value → Value → Sem α}
    (hf : ∀ v u s2 x y H2 r2 h2 va vb, Inv X pins σ H2 s2 → Ext r H r2 H2 → Rel G r2 h2 H2 → VR G r2 H2 va x → VR G r2 H2 vb y → RelV x v → RelV y u → Post G W r2 H2 σ R2 Q (k va vb h2) → wpAny (model X.prog X.w) X.A (f v u) QQ X.xe s2) :
    wpAny (model X.prog X.w) X.A (eval a X.env) (fun v s₁ => wpAny (model X.prog X.w) X.A (eval b X.env) (fun u s₂ => wpAny (model X.prog X.w) X.A (f v u) QQ X.xe s₂) X.xe s₁) X.xe s := by
  refine thn (ha.run pins s σ H _ I ⟨r, h, l, q, hl, Post.bind p⟩) fun v s1 ⟨x, H1, I1, r1', ⟨r1, h1, va, e1, q1, z1, p1⟩⟩ => ?_
  refine thn (hb.run pins s1 σ H1 _ I1 ⟨r1, h1, l, q1, hl.ext e1, Post.bind p1⟩) fun u s2 ⟨y, H2, I2, r2', ⟨r2, h2, vb, e2, q2, z2, p2⟩⟩ => ?_
  exact hf v u s2 x y H2 r2 h2 va vb I2 (e1.trans e2) q2 (z1.ext e2) z2 r1' r2' p2
theorem me_op {op : Operator} {g : VOp} (o : OpM X G (binaryOp op) g) (ha : ME X G W a ma) (hb : ME X G W b mb) : ME X G W (.BinOp a op b pos) (e2 g ma mb) :=
  ⟨fun pins s σ H Q I ⟨r, h, l, q, hl, p⟩ => wpAny_BinOp (both ha hb I q hl p fun v u s2 x y H2 r2 h2 va vb I2 e q2 za zb rx ry p2 => o W pins s2 σ H2 r2 h2 va vb x y v u Q I2 q2 za zb rx ry p2)⟩
theorem me_cmp {op : CmpOp} {g : VOp} (o : OpM X G (compareOp op) g) (ha : ME X G W a ma) (hb : ME X G W b mb) (hm : behindInMarks op b = false) : ME X G W (.Compare a [op] [b] pos) (e2 g ma mb) :=
  ⟨fun pins s σ H Q I ⟨r, h, l, q, hl, p⟩ => wpAny_Compare1 (both ha hb I q hl p fun v u s2 x y H2 r2 h2 va vb I2 e q2 za zb rx ry p2 => o W pins s2 σ H2 r2 h2 va vb x y v u Q I2 q2 za zb rx ry p2) hm⟩
/-- a value that must be a truth -/
def toB (v : Val) (h : HM) : Res Bool := match v with
  | .bl b => .ok b h
  | _ => .bad
def tOf (m : EM) : TM := fun l h => (m l h).bind toB
theorem post_toB {Q : Bool → Hp → Prop} {v : Val} {x : V} (q : Rel G r h H) (z : VR G r H v x) (p : Post G W r H s REq Q (toB v h)) : ∃ k, x = .bl k ∧ Q k H := by
  cases z with
  | bl k => exact ⟨k, rfl, Post.here (R := REq) q rfl p⟩
  | _ => exact p.elim
/-- a comparison as a test -/
theorem mt_cmp {op : CmpOp} {g : VOp} (o : OpM X G (compareOp op) g) (ha : ME X G W a ma) (hb : ME X G W b mb) (hm : behindInMarks op b = false) : MT X G W (.Compare a [op] [b] pos) (tOf (e2 g ma mb)) := by
  refine ⟨fun pins s σ H Q I ⟨r, h, l, q, hl, p⟩ => ?_⟩
  have p' : Post G W r H σ REq Q ((ma l h).bind fun x h1 => (mb l h1).bind fun y h2 => (g x y h2).bind toB) := by
    unfold tOf e2 at p
    revert p
    cases ma l h with
    | ok x h1 => intro p; simp only [Res.bind_ok] at p ⊢; revert p; cases mb l h1 <;> exact fun p => p
    | exc c h1 => exact fun p => p
    | bad => exact fun p => p
  refine wpAny_isTrue_Compare1 (both ha hb I q hl p' fun v u s2 x y H2 r2 h2 va vb I2 e q2 za zb rx ry p2 => thn (o W pins s2 σ H2 r2 h2 va vb x y v u _ I2 q2 za zb rx ry (Post.bind p2)) fun c s3 ⟨z, H3, I3, r3, ⟨r4, h4, w4, e4, q4, z4, p4⟩⟩ => ?_) hm
  obtain ⟨k, rfl, qq⟩ := post_toB q4 z4 p4
  cases r3
  exact wpAny_truthy_bool ⟨H3, I3, qq⟩
/-- a value's truth -/
def truV (v : Val) (h : HM) : Res Bool := match v with
  | .non => .ok false h
  | .bl b => .ok b h
  | .int i => .ok (i != 0) h
  | .str x => if x.length ≤ sizeLine then .ok ((x.length : Int) != 0) h else .bad
  | .tup xs => .ok (!xs.isEmpty) h
  | .ptup xs => .ok (!xs.isEmpty) h
  | .lst xs => .ok (!xs.isEmpty) h
  | .ref n => match h[n]? with
    | some (.lst xs) => .ok (!xs.isEmpty) h
    | some (.dK kvs) => .ok (!kvs.isEmpty) h
    | _ => .bad
  | _ => .bad
def tTru (m : EM) : TM := fun l h => (m l h).bind truV
theorem VRs.isEmpty {xs : List Val} {vs : List V} (q : VRs G r H xs vs) : vs.isEmpty = xs.isEmpty := by cases q <;> rfl
theorem post_tru {K : PySem.W.Frag} {Q : Bool → Hp → Prop} {v : Val} {x : V} (q : Rel G r h H) (z : VR G r H v x) (p : Post G W r H s REq Q (truV v h)) : ∃ k, TruV K x H k ∧ Q k H := by
  cases z with
  | non => exact ⟨_, rfl, Post.here (R := REq) q rfl p⟩
  | bl k => exact ⟨_, rfl, Post.here (R := REq) q rfl p⟩
  | int i => exact ⟨_, rfl, Post.here (R := REq) q rfl p⟩
  | str x =>
    unfold truV at p
    simp only at p
    split at p
    · rename_i hz; exact ⟨_, ⟨hz, rfl⟩, Post.here (R := REq) q rfl p⟩
    · exact p.elim
  | tup d n t => exact ⟨_, .inr (.inl ⟨_, .inl (.inl d), rfl⟩), by rw [t.isEmpty]; exact Post.here (R := REq) q rfl p⟩
  | ptup d dn n t => exact ⟨_, .inr (.inl ⟨_, .inl (.inr ⟨_, d⟩), rfl⟩), by rw [t.isEmpty]; exact Post.here (R := REq) q rfl p⟩
  | lst d n t => exact ⟨_, .inl ⟨_, .inl (.inl d), rfl⟩, by rw [t.isEmpty]; exact Post.here (R := REq) q rfl p⟩
  | ref e =>
    obtain ⟨o, ho, ob⟩ := q.at_ e
    unfold truV at p
    simp only [ho] at p
    cases ob with
    | lst h1 h2 => exact ⟨_, .inl ⟨_, .inl (.inl h1), rfl⟩, by rw [h2.isEmpty]; exact Post.here (R := REq) q rfl p⟩
    | dK h1 h2 =>
      refine ⟨_, .inr (.inr ⟨_, h1, rfl⟩), ?_⟩
      have : ∀ {A : List (Key × Val)} {B : List (Key × V)}, KR G r H A B → B.isEmpty = A.isEmpty := fun z => by cases z <;> rfl
      rw [this h2]
      exact Post.here (R := REq) q rfl p
    | _ => exact p.elim
  | _ => exact p.elim
theorem mt_tru (he : ME X G W a ma) (hw : ∀ whole, isTrue a X.env whole = (do let v ← whole; standAt a.pos; holding [v] (truthy v)) := by intro _; rfl) : MT X G W a (tTru ma) := by
  refine ⟨fun pins s σ H Q I ⟨r, h, l, q, hl, p⟩ => ?_⟩
  exact PyProof.Rows.isTrue_plain (thn (he.run pins s σ H _ I ⟨r, h, l, q, hl, Post.bind p⟩) fun v s1 ⟨x, H1, I1, r1, ⟨r4, h4, w4, e4, q4, z4, p4⟩⟩ => tru_ok pins s1 σ H1 x v Q I1 r1 (post_tru q4 z4 p4)) (hw _)
def tAndM (a b : TM) : TM := fun l h => (a l h).bind fun c h1 => if c = true then b l h1 else .ok false h1
def tOrM (a b : TM) : TM := fun l h => (a l h).bind fun c h1 => if c = true then .ok true h1 else b l h1
def tNotM (a : TM) : TM := fun l h => (a l h).bind fun c h1 => .ok (!c) h1
variable {ta tb : TM} {rest : List Expr}
theorem mw_or1 (ha : MT X G W a ta) : MW X G W (.BoolOp .Or [a] pos) ta := pw_or1 ha
theorem mw_or (ha : MT X G W a ta) (hb : MW X G W (.BoolOp .Or (b :: rest) pos) tb) : MW X G W (.BoolOp .Or (a :: b :: rest) pos) (tOrM ta tb) := by
  refine ⟨fun wh pins s σ H Q I ⟨r, h, l, q, hl, p⟩ => (pw_or ha hb).run wh pins s σ H Q I ⟨r, h, l, q, hl, (Post.bind p).imp fun c H1 ⟨r1, h1, w1, e1, q1, z1, p1⟩ => ?_⟩⟩
  cases z1
  cases c with
  | true => exact Post.here (R := REq) q1 rfl p1
  | false => exact ⟨r1, h1, l, q1, hl.ext e1, p1⟩
theorem MW.mt (h : MW X G W a ta) : MT X G W a ta := PW.pt h
theorem mt_not (ha : MT X G W a ta) : MT X G W (.UnaryOp .Not a pos) (tNotM ta) := by
  refine ⟨fun pins s σ H Q I ⟨r, h, l, q, hl, p⟩ => (pt_not ha).run pins s σ H Q I ⟨r, h, l, q, hl, (Post.bind p).imp fun c H1 ⟨r1, h1, w1, e1, q1, z1, p1⟩ => ?_⟩⟩
  cases z1
  exact Post.here (R := REq) q1 rfl p1
/-- as values: every part but the last one a truth -/
def eAndM (a b : EM) : EM := fun l h => (a l h).bind fun x h1 => (toB x h1).bind fun c h2 => if c = true then b l h2 else .ok (.bl false) h2
def eOrM (a b : EM) : EM := fun l h => (a l h).bind fun x h1 => (toB x h1).bind fun c h2 => if c = true then .ok (.bl true) h2 else b l h2
/-- not x as a value, by truth -/
def eNotM (a : EM) : EM := fun l h => (a l h).bind fun x h1 => (truV x h1).bind fun c h2 => .ok (.bl (!c)) h2
theorem me_one {op} (ha : ME X G W a ma) : ME X G W (.BoolOp op [a] pos) ma := pe_one ha
theorem me_and (ha : ME X G W a ma) (hb : ME X G W (.BoolOp .And (b :: rest) pos) mb) : ME X G W (.BoolOp .And (a :: b :: rest) pos) (eAndM ma mb) := by
  refine ⟨fun pins s σ H Q I ⟨r, h, l, q, hl, p⟩ => (pe_and ha hb).run pins s σ H Q I ⟨r, h, l, q, hl, (Post.bind p).imp fun x H1 ⟨r1, h1, w1, e1, q1, z1, p1⟩ => ?_⟩⟩
  cases z1 with
  | bl c =>
    refine ⟨c, rfl, ?_⟩
    simp only [toB, Res.bind_ok] at p1
    cases c with
    | true => exact ⟨r1, h1, l, q1, hl.ext e1, p1⟩
    | false => exact Post.here q1 (.bl _) p1
  | _ => exact p1.elim
theorem me_not (ha : ME X G W a ma) : ME X G W (.UnaryOp .Not a pos) (eNotM ma) := by
  refine ⟨fun pins s σ H Q I ⟨r, h, l, q, hl, p⟩ => ?_⟩
  refine PyProof.Rows.UnaryOp_ (thn (ha.run pins s σ H _ I ⟨r, h, l, q, hl, Post.bind p⟩) fun v s1 ⟨x, H1, I1, rx, ⟨r1, h1, w1, e1, q1, z1, p1⟩⟩ => PyProof.Rows.not_of (thn (tru_ok pins s1 σ H1 x v _ I1 rx (post_tru q1 z1 (Post.bind p1))) fun c s2 ⟨H2, I2, ⟨r3, h3, w3, e3, q3, z3, p3⟩⟩ => ?_))
  cases z3
  exact ⟨.bl (!c), H2, I2, rfl, Post.here q3 (.bl _) p3⟩
def eIfM (t : TM) (a b : EM) : EM := fun l h => (t l h).bind fun c h1 => if c = true then a l h1 else b l h1
def aNil : AM := fun _ h => .ok [] h
def aCons (a : EM) (t : AM) : AM := fun l h => (a l h).bind fun x h1 => (t l h1).bind fun xs h2 => .ok (x :: xs) h2
theorem ma_nil : MA X G W [] aNil := ⟨fun pos pins s σ H Q I ⟨r, h, l, q, hl, p⟩ => pa_nil.run pos pins s σ H Q I (Post.here q .nil p)⟩
variable {es : List Expr} {mt : AM}
theorem ma_cons (ha : ME X G W a ma) (hr : MA X G W es mt) (hs : starEach (a :: es) X.env = (false, eval a X.env) :: starEach es X.env := by rfl) : MA X G W (a :: es) (aCons ma mt) := by
  refine ⟨fun pos pins s σ H Q I ⟨r, h, l, q, hl, p⟩ => (pa_cons ha hr hs).run pos pins s σ H Q I ⟨r, h, l, q, hl, (Post.bind p).imp fun x H1 ⟨r1, h1, w1, e1, q1, z1, p1⟩ => ?_⟩⟩
  refine ⟨r1, h1, l, q1, hl.ext e1, (Post.bind p1).imp fun xs H2 ⟨r2, h2, w2, e2, q2, z2, p2⟩ => ?_⟩
  exact Post.here q2 (.cons (z1.ext e2) z2) p2
def mkTup (xs : List Val) (h : HM) : Res Val := if xs.length ≤ sizeLine then .ok (.tup xs) h else .bad
def mkLst (xs : List Val) (h : HM) : Res Val := if xs.length ≤ sizeLine then .ok (.lst xs) h else .bad
/-- a list that will be changed -/
def mkRef (xs : List Val) (h : HM) : Res Val := if xs.length ≤ sizeLine then .ok (.ref h.length) (h ++ [.lst xs]) else .bad
theorem post_tup {Q : VK} {xs : List Val} {vs : List V} (q : Rel G r h H) (z : VRs G r H xs vs) (p : Post G W r H s (VR G) Q (mkTup xs h)) : vs.length ≤ sizeLine ∧ ∀ a, H a = none → Q (.ref a) (upd H a (.tup vs)) := by
  unfold mkTup at p
  split at p
  · rename_i hz
    refine ⟨by rw [← z.length]; exact hz, fun a n => ?_⟩
    exact p r _ _ (ext_new q n) (q.laid n) (.tup upd_same (q.new n) (z.ext (ext_new q n)))
  · exact p.elim
theorem post_lst {Q : VK} {xs : List Val} {vs : List V} (q : Rel G r h H) (z : VRs G r H xs vs) (p : Post G W r H s (VR G) Q (mkLst xs h)) : vs.length ≤ sizeLine ∧ ∀ a, H a = none → Q (.ref a) (upd H a (.lst vs)) := by
  unfold mkLst at p
  split at p
  · rename_i hz
    refine ⟨by rw [← z.length]; exact hz, fun a n => ?_⟩
    exact p r _ _ (ext_new q n) (q.laid n) (.lst upd_same (q.new n) (z.ext (ext_new q n)))
  · exact p.elim
theorem get_last {r : Ad} {a : Addr} : (r.push a).ix[r.ix.length]? = some a := by simp [Ad.push]
theorem post_ref {Q : VK} {xs : List Val} {vs : List V} (q : Rel G r h H) (z : VRs G r H xs vs) (p : Post G W r H s (VR G) Q (mkRef xs h)) : vs.length ≤ sizeLine ∧ ∀ a, H a = none → Q (.ref a) (upd H a (.lst vs)) := by
  unfold mkRef at p
  split at p
  · rename_i hz
    refine ⟨by rw [← z.length]; exact hz, fun a n => ?_⟩
    refine p (r.push a) _ _ (ext_alloc q n) (q.alloc n (.lst upd_same (z.ext (ext_alloc q n)))) (.ref ?_)
    rw [← q.len]; exact get_last
  · exact p.elim
def eDisp (mk : List Val → HM → Res Val) (m : AM) : EM := fun l h => (m l h).bind mk
theorem me_tup {k} (ha : MA X G W es mt) : ME X G W (.Tuple es k pos) (eDisp mkTup mt) := by
  refine ⟨fun pins s σ H Q I ⟨r, h, l, q, hl, p⟩ => (pe_tup ha).run pins s σ H Q I ⟨r, h, l, q, hl, (Post.bind p).imp fun xs H1 ⟨r1, h1, w1, e1, q1, z1, p1⟩ => ?_⟩⟩
  exact post_tup q1 z1 p1
theorem me_lst (ha : MA X G W es mt) : ME X G W (.List es pos) (eDisp mkLst mt) := by
  refine ⟨fun pins s σ H Q I ⟨r, h, l, q, hl, p⟩ => (pe_lst ha).run pins s σ H Q I ⟨r, h, l, q, hl, (Post.bind p).imp fun xs H1 ⟨r1, h1, w1, e1, q1, z1, p1⟩ => ?_⟩⟩
  exact post_lst q1 z1 p1
theorem me_lstR (ha : MA X G W es mt) : ME X G W (.List es pos) (eDisp mkRef mt) := by
  refine ⟨fun pins s σ H Q I ⟨r, h, l, q, hl, p⟩ => (pe_lst ha).run pins s σ H Q I ⟨r, h, l, q, hl, (Post.bind p).imp fun xs H1 ⟨r1, h1, w1, e1, q1, z1, p1⟩ => ?_⟩⟩
  exact post_ref q1 z1 p1
end
end MM
namespace MM
open PySem L2
def sNil : SM := fun l h => .nx l h
def sSeq (a b : SM) : SM := fun l h => match a l h with
  | .nx l1 h1 => b l1 h1
  | x => x
def sDrop (m : EM) : SM := fun l h => (m l h).thn l fun _ h1 => .nx l h1
def sRet (m : EM) : SM := fun l h => (m l h).thn l fun v h1 => .rt v h1
def sIf (t : TM) (a b : SM) : SM := fun l h => (t l h).thn l fun c h1 => if c = true then a l h1 else b l h1
section
variable {X : Cx} {G : Glob} {W : WX} {r r1 : Ad} {H H1 : Hp} {h : HM} {l : Loc} {s : St} {st : Stmt} {rest : List Stmt} {a b : SM} {e : Expr} {m : EM} {pos : Pos}
theorem PostS.imp {D D' : Ends} {x : SRes} (p : PostS G W r H D x) (i : ∀ s H, D.nx s H → D'.nx s H) (j : ∀ v H, D.rt v H → D'.rt v H) : PostS G W r H D' x := by
  cases x with
  | nx l h' => exact fun r' H' s' e q z => i _ _ (p r' H' s' e q z)
  | rt v h' => exact fun r' H' u e q z => j _ _ (p r' H' u e q z)
  | exc c l h' => exact p
  | bad => exact p
theorem PostS.seq {D : Ends} {x : SRes} (p : PostS G W r H D (match x with | .nx l1 h1 => b l1 h1 | x => x)) : PostS G W r H { D with nx := tS G W b D } x := by
  cases x with
  | nx l h' => exact fun r' H' s' e q z => ⟨r', h', l, q, z, PostS.shift e p⟩
  | rt v h' => exact p
  | exc c l h' => exact p
  | bad => exact p
theorem mss_nil : MSs X G W [] sNil := ⟨fun pins s σ H D I ⟨r, h, l, q, hl, p⟩ => pss_nil.run pins s σ H D I (p r H σ Ext.refl q hl)⟩
theorem mss_cons (h1 : MS X G W st a) (h2 : MSs X G W rest b) : MSs X G W (st :: rest) (sSeq a b) := ⟨fun pins s σ H D I ⟨r, h, l, q, hl, p⟩ => (pss_cons h1 h2).run pins s σ H D I ⟨r, h, l, q, hl, PostS.seq p⟩⟩
theorem mss_one (h1 : MS X G W st a) : MSs X G W [st] a := ⟨fun pins s σ H D I p => (pss_one h1).run pins s σ H D I p⟩
theorem ms_expr (he : ME X G W e m) (hs : swapsWith e none pos.line X.env = pure false := by rfl) : MS X G W (.Expr e pos) (sDrop m) :=
  ⟨fun pins s σ H D I ⟨r, h, l, q, hl, p⟩ => (ps_expr he hs).run pins s σ H D I ⟨r, h, l, q, hl, (Post.thn hl p).imp fun v H1 ⟨r1, h1, x1, e1, q1, z1, p1⟩ => p1 r1 H1 σ Ext.refl q1 (hl.ext e1)⟩⟩
theorem ms_ret (he : ME X G W e m) : MS X G W (.Return (some e) pos) (sRet m) :=
  ⟨fun pins s σ H D I ⟨r, h, l, q, hl, p⟩ => (ps_ret he).run pins s σ H D I ⟨r, h, l, q, hl, (Post.thn hl p).imp fun v H1 ⟨r1, h1, x1, e1, q1, z1, p1⟩ => p1 r1 H1 v Ext.refl q1 z1⟩⟩
theorem ms_if {t : Expr} {mt : TM} {x y : List Stmt} (ht : MT X G W t mt) (ha : MSs X G W x a) (hb : MSs X G W y b) : MS X G W (.If t x y pos) (sIf mt a b) :=
  ⟨fun pins s σ H D I ⟨r, h, l, q, hl, p⟩ => (ps_if ht ha hb).run pins s σ H D I ⟨r, h, l, q, hl, (Post.thn hl p).imp fun c H1 ⟨r1, h1, x1, e1, q1, z1, p1⟩ => by
    cases z1
    cases c with
    | true => exact ⟨r1, h1, l, q1, hl.ext e1, p1⟩
    | false => exact ⟨r1, h1, l, q1, hl.ext e1, p1⟩⟩⟩
abbrev GM := Val → Loc → Option Loc
abbrev GsM := List Val → Loc → Option Loc
/-- the slots but those of vs are as they were -/
def Agree (vs : List Nat) (s s' : St) : Prop := s'.length = s.length ∧ ∀ j, j ∉ vs → s'[j]? = s[j]?
def Got (G : Glob) (vs : List Nat) (s : St) (r : Ad) (H : Hp) (Q : St → Hp → Prop) : Option Loc → Prop
  | some l' => ∀ s', LR G r H l' s' → Agree vs s s' → Q s' H
  | none => False
def tG (G : Glob) (vs : List Nat) (g : GM) : TG := fun v s H Q => ∃ r l x, LR G r H l s ∧ VR G r H x v ∧ Got G vs s r H Q (g x l)
def tGs (G : Glob) (vs : List Nat) (g : GsM) : TGs := fun us s H Q => ∃ r l xs, LR G r H l s ∧ VRs G r H xs us ∧ Got G vs s r H Q (g xs l)
abbrev MG (X : Cx) (G : Glob) (vs : List Nat) (t : Expr) (g : GM) : Prop := PG X t (tG G vs g)
abbrev MGs (X : Cx) (G : Glob) (vs : List Nat) (ts : List Expr) (g : GsM) : Prop := PGs X ts (tGs G vs g)
theorem Agree.refl {vs : List Nat} {s : St} : Agree vs s s := ⟨rfl, fun _ _ => rfl⟩
theorem Agree.set {i : Nat} {s : St} {v : V} : Agree [i] s (s.set i (some v)) := ⟨by simp, fun j hj => List.getElem?_set_ne (fun e => hj (by simp [e]))⟩
theorem Agree.trans {vs ws : List Nat} {s s1 s2 : St} (a : Agree vs s s1) (b : Agree ws s1 s2) : Agree (vs ++ ws) s s2 := ⟨b.1.trans a.1, fun j hj => by
  simp only [List.mem_append, not_or] at hj
  exact (b.2 j hj.2).trans (a.2 j hj.1)⟩
def gNm (i : Nat) : GM := fun x l => some (l.set i (some x))
theorem LR.set {i : Nat} {x : Val} {v : V} (hl : LR G r H l s) (z : VR G r H x v) : LR G r H (l.set i (some x)) (s.set i (some v)) := by
  refine ⟨by simp [hl.1], fun j w e => ?_⟩
  by_cases hj : j = i
  · subst hj
    have hlt : j < l.length := by
      have := (List.getElem?_eq_some_iff.mp e).1
      simpa using this
    rw [List.getElem?_set_self hlt] at e
    cases e
    exact ⟨v, List.getElem?_set_self (by rw [← hl.1]; exact hlt), z⟩
  · rw [List.getElem?_set_ne (Ne.symm hj)] at e
    rw [List.getElem?_set_ne (Ne.symm hj)]
    exact hl.2 j w e
theorem mg_name {i : Nat} {x : Str} (hN : X.N.Nodup) (hi : X.N[i]? = some x := by rfl) (hx : L2.Loc X.env.scope x := by first | exact Or.inl rfl | exact Or.inr rfl) (hf : X.fn x = true ∨ X.env.scope.names.lookup x = some .local := by first | exact .inl rfl | exact .inr rfl | assumption) : MG X G [i] (.Name x pos) (gNm i) :=
  ⟨fun pins s σ H v u Q I rv ⟨r, l, y, hl, z, p⟩ => (pg_name hN hi hx hf).run pins s σ H v u Q I rv (p _ (hl.set z) Agree.set)⟩
def gsNil : GsM := fun xs l => match xs with
  | [] => some l
  | _ => none
def gsCons (g : GM) (t : GsM) : GsM := fun xs l => match xs with
  | [] => none
  | x :: xs => (g x l).bind fun l1 => t xs l1
theorem mgs_nil : MGs X G [] [] gsNil := ⟨fun pins s σ H vs us Q I rv ⟨r, l, xs, hl, z, p⟩ => pgs_nil.run pins s σ H vs us Q I rv (by
  cases z with
  | nil => exact ⟨rfl, p σ hl Agree.refl⟩
  | cons _ _ => exact p.elim)⟩
variable {ts : List Expr} {t : Expr} {g : GM} {gs : GsM} {ws vs : List Nat}
theorem mgs_cons (h1 : MG X G ws t g) (h2 : MGs X G vs ts gs) (hs : (assignEach (t :: ts) X.env).map (·.2) = assign t X.env :: (assignEach ts X.env).map (·.2) := by rfl) : MGs X G (ws ++ vs) (t :: ts) (gsCons g gs) := by
  refine ⟨fun pins s σ H vs us Q I rv ⟨r, l, xs, hl, z, p⟩ => (pgs_cons h1 h2 hs).run pins s σ H vs us Q I rv ?_⟩
  cases z with
  | nil => exact p.elim
  | @cons x xs v us' z1 z2 =>
    refine ⟨_, _, rfl, r, l, _, hl, z1, ?_⟩
    simp only [gsCons] at p
    cases e : g x l with
    | none => rw [e] at p; exact p.elim
    | some l1 =>
      rw [e] at p
      refine fun s1 hl1 a1 => ⟨r, l1, _, hl1, z2, ?_⟩
      revert p
      simp only [Option.bind]
      cases gs xs l1 with
      | none => exact fun p => p
      | some l2 => exact fun p s2 hl2 a2 => p s2 hl2 (a1.trans a2)
def gTp (n : Nat) (gs : GsM) : GM := fun x l => match x with
  | .tup xs => if xs.length = n then gs xs l else none
  | .ptup xs => if xs.length = n then gs xs l else none
  | _ => none
theorem mg_tup {k n : Nat} (hc : X.calm = true) (h : MGs X G vs ts gs) (hn : (assignEach ts X.env).length = n := by rfl) (hst : (assignEach ts X.env).findIdx? (·.1) = none := by rfl) : MG X G vs (.Tuple ts k pos) (gTp n gs) := by
  refine ⟨fun pins s σ H v u Q I rv ⟨r, l, x, hl, z, p⟩ => (pg_tup hc h hn hst).run pins s σ H v u Q I rv ?_⟩
  cases z with
  | @tup a us' xs d m q =>
    simp only [gTp] at p
    split at p
    · rename_i hz
      exact ⟨_, _, rfl, .inl (.inl d), by rw [← q.length]; exact hz, r, l, xs, hl, q, p⟩
    · exact p.elim
  | @ptup a ob us' xs d dn m q =>
    simp only [gTp] at p
    split at p
    · rename_i hz
      exact ⟨_, _, rfl, .inl (.inr ⟨_, d⟩), by rw [← q.length]; exact hz, r, l, xs, hl, q, p⟩
    · exact p.elim
  | _ => exact p.elim
def sAsg (m : EM) (g : GM) : SM := fun l h => (m l h).thn l fun x h1 => match g x l with
  | some l1 => .nx l1 h1
  | none => .bad
theorem got_of {x : Val} {v : V} {D : Ends} (q : Rel G r h H) (hl : LR G r H l s) (z : VR G r H x v) (p : PostS G W r H D (match g x l with | some l1 => .nx l1 h | none => .bad)) : tG G vs g v s H D.nx := by
  refine ⟨r, l, x, hl, z, ?_⟩
  cases e : g x l with
  | none => rw [e] at p; exact p.elim
  | some l1 => rw [e] at p; exact fun s1 hl1 _ => p r H s1 Ext.refl q hl1
theorem ms_asg (he : ME X G W e m) (hg : MG X G vs t g) (hs : swapsWithSole [t] e pos.line X.env = pure false := by rfl) (hw : swappedStores [t] e X.env = pure none := by rfl)
    (h1 : (assignEach [t] X.env).map (·.2) = [assign t X.env] := by rfl) : MS X G W (.Assign [t] e pos) (sAsg m g) :=
  ⟨fun pins s σ H D I ⟨r, h, l, q, hl, p⟩ => (ps_asg he hg hs hw h1).run pins s σ H D I ⟨r, h, l, q, hl, (Post.thn hl p).imp fun v H1 ⟨r1, h1, x1, e1, q1, z1, p1⟩ => got_of q1 (hl.ext e1) z1 p1⟩⟩
theorem ms_set {i : Nat} {x : Str} {pos' : Pos} (hN : X.N.Nodup) (he : ME X G W e m) (hi : X.N[i]? = some x := by rfl) (hx : L2.Loc X.env.scope x := by first | exact Or.inl rfl | exact Or.inr rfl) (hs : swapsWith e (some (.Name x pos')) pos.line X.env = pure false := by rfl)
    (hf : X.fn x = true ∨ X.env.scope.names.lookup x = some .local := by first | exact .inl rfl | exact .inr rfl | assumption) : MS X G W (.Assign [.Name x pos'] e pos) (sAsg m (gNm i)) :=
  ⟨fun pins s σ H D I ⟨r, h, l, q, hl, p⟩ => (ps_set hN hi hx he hs hf).run pins s σ H D I ⟨r, h, l, q, hl, (Post.thn hl p).imp fun v H1 ⟨r1, h1, x1, e1, q1, z1, p1⟩ => p1 r1 H1 _ Ext.refl q1 ((hl.ext e1).set z1)⟩⟩
structure Src where
  len : Nat
  get : Nat → HM → Option Val
  ok : HM → Bool
def srcItems (xs : List Val) : Src := ⟨xs.length, fun i _ => xs[i]?, fun _ => true⟩
/-- a list that may change (not its length) -/
def lenIs (n k : Nat) (h : HM) : Bool := match h[n]? with
  | some (.lst xs) => xs.length == k
  | _ => false
def srcRef (n k : Nat) : Src := ⟨k, fun i h => if lenIs n k h = true then (match h[n]? with | some (.lst xs) => xs[i]? | _ => none) else none, lenIs n k⟩
def SrcR (G : Glob) (r : Ad) (H : Hp) (src : Src) (J : It) : Prop :=
  ∀ r2 H2 h2, Ex r H r2 H2 → (∀ a ∈ r.lk, H2 a = H a) → Rel G r2 h2 H2 →
    (∀ i x, i < src.len → src.get i h2 = some x → J.go i H2 ∧ ∀ v H3, J.yld i H2 v H3 → Ext r2 H2 r2 H3 ∧ Rel G r2 h2 H3 ∧ VR G r2 H3 x v) ∧ (src.ok h2 = true → J.stop src.len H2)
abbrev IM := Loc → HM → Res Src
def tI (G : Glob) (W : WX) (m : IM) : TI := fun s H R => ∃ r h l, Rel G r h H ∧ LR G r H l s ∧ Post G W r H s (SrcR G) R (m l h)
abbrev MI (X : Cx) (G : Glob) (W : WX) (tg e : Expr) (m : IM) : Prop := PI X tg e (tI G W m)
def forL (src : Src) (g : GM) (b : SM) : Nat → Nat → SM
  | 0, _, l, h => if src.ok h = true then .nx l h else .bad
  | n + 1, i, l, h => match src.get i h with
    | none => .bad
    | some x => match g x l with
      | none => .bad
      | some l1 => match b l1 h with
        | .nx l2 h2 => forL src g b n (i + 1) l2 h2
        | x => x
def sFor (ms : IM) (g : GM) (b : SM) : SM := fun l h => (ms l h).thn l fun src h1 => forL src g b src.len 0 l h1
theorem ms_for {iter : Expr} {body : List Stmt} {mi : IM} (hp : PassesOwn (model X.prog X.w) X.A X.env X.xe) (hc : X.calm = true) (hi : MI X G W t iter mi) (hg : MG X G vs t g) (hb : MSs X G W body b)
    (hs : ∀ x, foldedSetIterable iter X.env x = pure x := by intro _; rfl) : MS X G W (.For t iter body [] pos) (sFor mi g b) := by
  refine ⟨fun pins s σ H D I ⟨r, h, l, q, hl, p⟩ => (ps_for hp hc hi hg hb hs).run pins s σ H D I ⟨r, h, l, q, hl, (Post.thn hl p).imp fun J H1 ⟨r1, h1, src, e1, q1, z1, p1⟩ => ?_⟩⟩
  refine ⟨fun i m σ' H' => ∃ r' h' l', Ext r1 H1 r' H' ∧ Rel G r' h' H' ∧ LR G r' H' l' σ' ∧ i + m = src.len ∧ PostS G W r' H' D (forL src g b m i l' h'), ⟨src.len, r1, h1, l, Ext.refl, q1, hl.ext e1, Nat.zero_add _, p1⟩, ?_⟩
  rintro i m σ' H' ⟨r', h', l', e', q', hl', him, p'⟩
  obtain ⟨zg, zs⟩ := z1 r' H' h' e'.toEx e'.lks q'
  cases m with
  | zero =>
    left
    simp only [forL] at p'
    split at p'
    · rename_i ho
      have : i = src.len := by omega
      subst this
      exact ⟨zs ho, p' r' H' σ' Ext.refl q' hl'⟩
    · exact p'.elim
  | succ m =>
    right
    simp only [forL] at p'
    cases eg : src.get i h' with
    | none => rw [eg] at p'; exact p'.elim
    | some x =>
      rw [eg] at p'
      obtain ⟨go, yl⟩ := zg i x (by omega) eg
      refine ⟨go, fun σ2 H2 => ∃ r2 h2 l2, Ext r1 H1 r2 H2 ∧ Rel G r2 h2 H2 ∧ LR G r2 H2 l2 σ2 ∧ i + 1 + m = src.len ∧ PostS G W r2 H2 D (forL src g b m (i + 1) l2 h2), fun σ2 H2 n2 => ⟨m, Nat.lt_succ_self _, n2⟩, fun v H3 y => ?_⟩
      obtain ⟨e3, q3, z3⟩ := yl v H3 y
      refine ⟨r', l', x, hl'.ext e3, z3, ?_⟩
      simp only at p'
      cases ex : g x l' with
      | none => rw [ex] at p'; exact p'.elim
      | some l4 =>
        rw [ex] at p'
        simp only at p'
        refine fun σ4 hl4 _ => ⟨r', h', l4, q3, hl4, ?_⟩
        revert p'
        cases b l4 h' with
        | nx l5 h5 => exact fun p' r6 H6 σ6 e6 q6 hl6 => ⟨r6, h5, l5, (e'.trans e3).trans e6, q6, hl6, by omega, PostS.shift (e3.trans e6) p'⟩
        | rt v5 h5 => exact fun p' => PostS.shift (x := .rt v5 h5) e3 p'
        | exc c l5 h5 => exact fun p' => PostS.shift (x := .exc c l5 h5) (D := D) e3 p'
        | bad => exact fun p' => p'
/-- while; n: more turns than it takes -/
def whL (t : TM) (b : SM) : Nat → SM
  | 0, _, _ => .bad
  | n + 1, l, h => (t l h).thn l fun c h1 => if c = true then (match b l h1 with
    | .nx l2 h2 => whL t b n l2 h2
    | x => x) else .nx l h1
theorem ms_while {c : Expr} {body : List Stmt} {mt : TM} (n : Nat) (hp : PassesOwn (model X.prog X.w) X.A X.env X.xe) (ht : MT X G W c mt) (hb : MSs X G W body b) : MS X G W (.While c body [] pos) (whL mt b n) := by
  refine ⟨fun pins s σ H D I ⟨r, h, l, q, hl, p⟩ => (ps_while hp ht hb).run pins s σ H D I ?_⟩
  refine ⟨fun m σ' H' => ∃ r' h' l', Rel G r' h' H' ∧ LR G r' H' l' σ' ∧ PostS G W r' H' D (whL mt b m l' h'), ⟨n, r, h, l, q, hl, p⟩, ?_⟩
  rintro m σ' H' ⟨r', h', l', q', hl', p'⟩
  cases m with
  | zero => exact p'.elim
  | succ m =>
    refine ⟨r', h', l', q', hl', (Post.thn hl' p').imp fun c H1 ⟨r1, h1, x1, e1, q1, z1, p1⟩ => ?_⟩
    cases z1
    cases c with
    | false =>
      simp only [Bool.false_eq_true, if_false] at p1 ⊢
      exact p1 r1 H1 σ' Ext.refl q1 (hl'.ext e1)
    | true =>
      simp only [if_true] at p1 ⊢
      refine ⟨fun σ2 H2 => ∃ r2 h2 l2, Rel G r2 h2 H2 ∧ LR G r2 H2 l2 σ2 ∧ PostS G W r2 H2 D (whL mt b m l2 h2), fun σ2 H2 n2 => ⟨m, Nat.lt_succ_self _, n2⟩, r1, h1, l', q1, hl'.ext e1, ?_⟩
      revert p1
      cases b l' h1 with
      | nx l5 h5 => exact fun p1 r6 H6 σ6 e6 q6 hl6 => ⟨r6, h5, l5, q6, hl6, PostS.shift e6 p1⟩
      | rt v5 h5 => exact fun p1 => p1
      | exc c l5 h5 => exact fun p1 => p1
      | bad => exact fun p1 => p1
end
end MM
namespace MM
open PySem L2
abbrev W0 : WX := fun _ _ _ _ => False
def wipeL (l : Loc) : List Nat → Loc
  | [] => l
  | v :: vs => (wipeL l vs).set v none
/-- one turn behind another; l: the locals, the own names wiped -/
def lcL (src : Src) (g : GM) (tt : TM) (te : EM) (l : Loc) : Nat → Nat → HM → List Val → Res (List Val)
  | 0, _, h, acc => if src.ok h = true then .ok acc h else .bad
  | n + 1, i, h, acc => match src.get i h with
    | none => .bad
    | some x => match g x l with
      | none => .bad
      | some l1 => match tt l1 h with
        | .ok true h1 => (match te l1 h1 with
          | .ok y h2 => if acc.length < sizeLine then lcL src g tt te l n (i + 1) h2 (acc ++ [y]) else .bad
          | _ => .bad)
        | .ok false h1 => lcL src g tt te l n (i + 1) h1 acc
        | _ => .bad
def frozen (xs : List Val) (h : HM) : Res Val := .ok (.lst xs) h
def fresh (xs : List Val) (h : HM) : Res Val := .ok (.ref h.length) (h ++ [.lst xs])
def eLc (mi : IM) (g : GM) (tt : TM) (te : EM) (vs : List Nat) (mk : List Val → HM → Res Val) : EM := fun l h => (mi l h).bind fun src h1 => (lcL src g tt te (wipeL l vs) src.len 0 h1 []).bind mk
def tYesM : TM := fun _ h => .ok true h
section
variable {X : Cx} {G : Glob} {W : WX} {r r1 r2 : Ad} {H H1 H2 : Hp} {h h1 : HM} {l : Loc} {s : St}
theorem LR.wipe (hl : LR G r H l s) (vs : List Nat) : LR G r H (wipeL l vs) (wipe s vs) := by
  induction vs with
  | nil => exact hl
  | cons v vs ih =>
    refine ⟨by simp [wipeL, L2.wipe, ih.1], fun i x e => ?_⟩
    simp only [wipeL, L2.wipe] at e ⊢
    by_cases hv : v = i
    · subst hv
      by_cases hlt : v < (wipeL l vs).length
      · rw [List.getElem?_set_self hlt] at e; cases e
      · rw [List.getElem?_eq_none (by simpa using hlt)] at e; cases e
    · rw [List.getElem?_set_ne hv] at e
      rw [List.getElem?_set_ne hv]
      exact ih.2 i x e
theorem wipe_get {s : St} {i : Nat} : ∀ {vs : List Nat}, (wipe s vs)[i]? = if i ∈ vs then (if i < s.length then some none else none) else s[i]?
  | [] => by simp [L2.wipe]
  | v :: vs => by
    simp only [L2.wipe]
    by_cases hv : v = i
    · subst hv
      by_cases hlt : v < (wipe s vs).length
      · rw [List.getElem?_set_self hlt]
        rw [wipe_length] at hlt
        simp [hlt]
      · rw [List.getElem?_eq_none (by simpa using hlt)]
        rw [wipe_length] at hlt
        simp [hlt]
    · rw [List.getElem?_set_ne hv, wipe_get]
      have : (i ∈ v :: vs) ↔ i ∈ vs := by
        simp only [List.mem_cons]
        exact ⟨fun z => z.resolve_left (Ne.symm hv), .inr⟩
      simp only [this]
theorem wipe_agree {ws vs : List Nat} {s s' : St} (a : Agree ws s s') (hv : ∀ v ∈ ws, v ∈ vs) : wipe s' vs = wipe s vs := by
  apply List.ext_getElem?
  intro i
  rw [wipe_get, wipe_get, a.1]
  by_cases hi : i ∈ vs
  · simp [hi]
  · simp only [hi, if_false]
    exact a.2 i fun m => hi (hv i m)
theorem wipe_wipe {vs : List Nat} {s : St} : wipe (wipe s vs) vs = wipe s vs := by
  apply List.ext_getElem?
  intro i
  rw [wipe_get, wipe_get, wipe_length]
  by_cases hi : i ∈ vs
  · simp [hi]
  · simp [hi, wipe_get]
/-- the state with the list at D hidden -/
structure Hid (G : Glob) (r1 : Ad) (H1 : Hp) (D : Addr) (r2 : Ad) (h2 : HM) (H2 : Hp) (xs : List Val) (us : List V) : Prop where
  ex : Ex (r1.hide D) (upd H1 D (.lst [])) r2 H2
  hh : r2.hid = D :: r1.hid
  hk : ∀ a ∈ r1.hid, H2 a = H1 a
  q : Rel G r2 h2 H2
  at_ : H2 D = some (.lst us)
  z : VRs G r2 H2 xs us
  lkk : r2.lk = r1.lk
  lks : ∀ a ∈ r1.lk, H2 a = H1 a
/-- what is to come of the list in the making -/
def PostC (G : Glob) (r1 : Ad) (H1 : Hp) (D : Addr) (Q : Hp → Prop) : Res (List Val) → Prop
  | .ok xs h2 => ∀ r2 H2 us, Hid G r1 H1 D r2 h2 H2 xs us → Q H2
  | _ => False
theorem post_frozen {D : Addr} {Q : VK} {x : Res (List Val)} (q1 : Rel G r1 h1 H1) (nD : H1 D = none) (p : Post G W0 r1 H1 s (VR G) Q (x.bind frozen)) (np : ∀ c h, x ≠ .exc c h) : PostC G r1 H1 D (Q (.ref D)) x := by
  cases x with
  | ok xs h2 =>
    intro r2 H2 us ⟨ex, hh, hk, q, at_, z, lkk, lks⟩
    have mD : D ∈ r2.hid := by rw [hh]; exact List.mem_cons_self
    exact p (r2.show_ r1.hid) H2 _ (ext_made q1 nD ex hh hk lkk lks) (q.show_ hh) (.lst at_ ⟨(q.hid D mD).1, (q1.new nD).2⟩ (z.ex (ex_show hh)))
  | exc c h => exact absurd rfl (np c h)
  | bad => exact p
theorem post_fresh {D : Addr} {Q : VK} {x : Res (List Val)} (q1 : Rel G r1 h1 H1) (nD : H1 D = none) (p : Post G W0 r1 H1 s (VR G) Q (x.bind fresh)) (np : ∀ c h, x ≠ .exc c h) : PostC G r1 H1 D (Q (.ref D)) x := by
  cases x with
  | ok xs h2 =>
    intro r2 H2 us ⟨ex, hh, hk, q, at_, z, lkk, lks⟩
    have mD : D ∈ r2.hid := by rw [hh]; exact List.mem_cons_self
    have xp : Ex r2 H2 ((r2.show_ r1.hid).push D) H2 := ⟨List.prefix_append _ _, fun a u za na => ⟨za, by
      refine ⟨?_, fun m => na.2 (by rw [hh]; exact List.mem_cons_of_mem _ m)⟩
      simp only [Ad.push, Ad.show_, List.mem_append, List.mem_singleton, not_or]
      exact ⟨na.1, fun e => na.2 (by rw [e]; exact mD)⟩⟩⟩
    have qp : Rel G ((r2.show_ r1.hid).push D) (h2 ++ [.lst xs]) H2 := by
      refine ⟨?_, by simp [Ad.push, Ad.show_, q.len], fun a m => ?_, fun n a w e1 e2 => ?_, fun a m => ⟨fun m2 => (q.lk a m).1 (by rw [hh]; exact List.mem_cons_of_mem _ m2), (q.lk a m).2⟩, fun n a w e1 e2 hw => ?_⟩
      · simp only [Ad.push, Ad.show_]
        rw [List.nodup_append]
        refine ⟨q.nd, by simp, fun a ha b hb => ?_⟩
        simp at hb
        subst hb
        exact fun e => (q.hid _ mD).1 (e ▸ ha)
      · have m2 : a ∈ r2.hid := by rw [hh]; exact List.mem_cons_of_mem _ m
        refine ⟨?_, (q.hd a m2).2⟩
        simp only [Ad.push, Ad.show_, List.mem_append, List.mem_singleton, not_or]
        exact ⟨(q.hid a m2).1, fun e => (q1.new nD).2 (e ▸ m)⟩
      · have e1 : (r2.ix ++ [D])[n]? = some a := e1
        by_cases hn : n < r2.ix.length
        · rw [List.getElem?_append_left hn] at e1
          rw [List.getElem?_append_left (by rw [← q.len]; exact hn)] at e2
          exact (q.ob n a w e1 e2).ex xp rfl
        · have hn' : n = r2.ix.length := by
            have := (List.getElem?_eq_some_iff.mp e1).1
            simp at this
            omega
          subst hn'
          rw [List.getElem?_append_right (Nat.le_refl _)] at e1
          rw [q.len, List.getElem?_append_right (Nat.le_refl _)] at e2
          simp at e1 e2
          subst e1 e2
          exact .lst at_ (z.ex xp)
      · have e1 : (r2.ix ++ [D])[n]? = some a := e1
        by_cases hn : n < r2.ix.length
        · rw [List.getElem?_append_left hn] at e1
          rw [List.getElem?_append_left (by rw [← q.len]; exact hn)] at e2
          exact q.lo n a w e1 e2 hw
        · have hn' : n = r2.ix.length := by
            have := (List.getElem?_eq_some_iff.mp e1).1
            simp at this
            omega
          subst hn'
          rw [q.len, List.getElem?_append_right (Nat.le_refl _)] at e2
          simp at e2
          subst e2
          cases hw
    refine p _ H2 _ ⟨((ex_hide nD).trans ex).trans xp, rfl, hk, lkk, lks⟩ qp (.ref ?_)
    rw [← q.len]
    exact get_last
  | exc c h => exact absurd rfl (np c h)
  | bad => exact p
/-- the loop of a comprehension -/
theorem lc_loop {src : Src} {J : It} {g : GM} {tt : TM} {te : EM} {own ws : List Nat} {D : Addr} {Q : Hp → Prop}
    (q1 : Rel G r1 h1 H1) (z1 : SrcR G r1 H1 src J) (hl : LR G r1 H1 l s) (hv : ∀ v ∈ ws, v ∈ own) (nD : H1 D = none)
    (p : PostC G r1 H1 D Q (lcL src g tt te (wipeL l own) src.len 0 h1 [])) :
    ∃ Wv : Nat → Nat → Hp → Prop, (∃ m, Wv 0 m (upd H1 D (.lst []))) ∧ ∀ i m H, Wv i m H →
      (J.stop i H ∧ Q H) ∨ (J.go i H ∧ ∃ Nx : Hp → Prop, (∀ H', Nx H' → ∃ m', m' < m ∧ Wv (i + 1) m' H') ∧ ∀ x H', J.yld i H x H' → tG G ws g x (wipe s own) H' fun σ2 H2 => wipe σ2 own = wipe s own ∧ tT G W0 tt σ2 H2 fun b H3 =>
        if b = true then tE G W0 te σ2 H3 fun y H4 => ∃ acc, H4 D = some (.lst acc) ∧ acc.length < sizeLine ∧ Nx (upd H4 D (.lst (acc ++ [y]))) else Nx H3) := by
  have hlw := hl.wipe own
  -- the sources seen through the hiding
  refine ⟨fun i m H => ∃ r' h' acc us, Ex (r1.hide D) (upd H1 D (.lst [])) r' H ∧ r'.hid = D :: r1.hid ∧ (∀ a ∈ r1.hid, H a = H1 a) ∧ (r'.lk = r1.lk ∧ ∀ a ∈ r1.lk, H a = H1 a) ∧ Rel G r' h' H ∧ H D = some (.lst us) ∧ VRs G r' H acc us ∧ i + m = src.len ∧
    PostC G r1 H1 D Q (lcL src g tt te (wipeL l own) m i h' acc), ⟨src.len, r1.hide D, h1, [], [], Ext.refl.toEx, rfl, fun a ha => ?_, ⟨rfl, fun a ha => ?_⟩, q1.hide nD, upd_same, .nil, Nat.zero_add _, p⟩, ?_⟩
  · exact upd_ne fun e => (q1.hid a ha).2 (by rw [e]; exact nD)
  · exact upd_ne fun e => q1.lk_there ha (by rw [e]; exact nD)
  rintro i m H ⟨r', h', acc, us, ex, hh, hk, ⟨lkk, lks⟩, q', hD, za, him, p'⟩
  have mD : D ∈ r'.hid := by rw [hh]; exact List.mem_cons_self
  have xt : Ext r1 H1 (r'.show_ r1.hid) H := ext_made q1 nD ex hh hk lkk lks
  have qs := q'.show_ hh
  have outD : (r'.show_ r1.hid).out D := ⟨(q'.hid D mD).1, (q1.new nD).2⟩
  obtain ⟨zg, zs⟩ := z1 _ H h' ((ex_hide nD).trans ex) lks q'
  cases m with
  | zero =>
    left
    simp only [lcL] at p'
    split at p'
    · rename_i ho
      have : i = src.len := by omega
      subst this
      exact ⟨zs ho, p' _ H us ⟨ex, hh, hk, q', hD, za, lkk, lks⟩⟩
    · exact p'.elim
  | succ m =>
    right
    simp only [lcL] at p'
    cases eg : src.get i h' with
    | none => rw [eg] at p'; exact p'.elim
    | some x =>
      rw [eg] at p'
      obtain ⟨go, yl⟩ := zg i x (by omega) eg
      refine ⟨go, fun H' => ∃ r' h' acc us, Ex (r1.hide D) (upd H1 D (.lst [])) r' H' ∧ r'.hid = D :: r1.hid ∧ (∀ a ∈ r1.hid, H' a = H1 a) ∧ (r'.lk = r1.lk ∧ ∀ a ∈ r1.lk, H' a = H1 a) ∧ Rel G r' h' H' ∧ H' D = some (.lst us) ∧ VRs G r' H' acc us ∧ i + 1 + m = src.len ∧
        PostC G r1 H1 D Q (lcL src g tt te (wipeL l own) m (i + 1) h' acc), fun H' n => ⟨m, Nat.lt_succ_self _, n⟩, fun v H3 y => ?_⟩
      obtain ⟨e3, q3, z3⟩ := yl v H3 y
      have hD3 : H3 D = some (.lst us) := (e3.hk D mD).trans hD
      have hk3 : ∀ a ∈ r1.hid, H3 a = H1 a := fun a ha => (e3.hk a (by rw [hh]; exact List.mem_cons_of_mem _ ha)).trans (hk a ha)
      have lks3 : ∀ a ∈ r1.lk, H3 a = H1 a := fun a ha => (e3.lks a (by rw [lkk]; exact ha)).trans (lks a ha)
      have exa : Ex r1 H1 r' H3 := ((ex_hide nD).trans ex).trans e3.toEx
      refine ⟨r', wipeL l own, x, hlw.ex exa, z3, ?_⟩
      simp only at p'
      cases ex1 : g x (wipeL l own) with
      | none => rw [ex1] at p'; exact p'.elim
      | some l1 =>
        rw [ex1] at p'
        simp only at p'
        refine fun σ2 hl2 ag => ⟨(wipe_agree ag hv).trans wipe_wipe, r', h', l1, q3, hl2, ?_⟩
        cases et : tt l1 h' with
        | bad => rw [et] at p'; exact p'.elim
        | exc c hc => rw [et] at p'; exact p'.elim
        | ok b h4 =>
          rw [et] at p'
          intro r4 H4 b' e4 q4 eb
          have eb : b' = b := eb
          subst eb
          have hh4 : r4.hid = D :: r1.hid := e4.hid.trans hh
          have mD4 : D ∈ r4.hid := by rw [hh4]; exact List.mem_cons_self
          have hD4 : H4 D = some (.lst us) := (e4.hk D mD).trans hD3
          have hk4 : ∀ a ∈ r1.hid, H4 a = H1 a := fun a ha => (e4.hk a (by rw [hh]; exact List.mem_cons_of_mem _ ha)).trans (hk3 a ha)
          have lkk4 : r4.lk = r1.lk := e4.lkk.trans lkk
          have lks4 : ∀ a ∈ r1.lk, H4 a = H1 a := fun a ha => (e4.lks a (by rw [lkk]; exact ha)).trans (lks3 a ha)
          have ex4 := (ex.trans e3.toEx).trans e4.toEx
          have za4 := (za.ext e3).ext e4
          cases b' with
          | false =>
            simp only [Bool.false_eq_true, if_false] at p' ⊢
            exact ⟨r4, h4, acc, us, ex4, hh4, hk4, ⟨lkk4, lks4⟩, q4, hD4, za4, by omega, p'⟩
          | true =>
            simp only [if_true] at p' ⊢
            refine ⟨r4, h4, l1, q4, hl2.ext e4, ?_⟩
            cases ee : te l1 h4 with
            | bad => rw [ee] at p'; exact p'.elim
            | exc c hc => rw [ee] at p'; exact p'.elim
            | ok y5 h5 =>
              rw [ee] at p'
              simp only at p'
              split at p'
              · rename_i hz
                intro r5 H5 u e5 q5 zu
                have hh5 : r5.hid = D :: r1.hid := e5.hid.trans hh4
                have mD5 : D ∈ r5.hid := by rw [hh5]; exact List.mem_cons_self
                have hD5 : H5 D = some (.lst us) := (e5.hk D mD4).trans hD4
                have za5 := za4.ext e5
                have xg : Ex r5 H5 r5 (upd H5 D (.lst (us ++ [u]))) := ex_grow mD5
                refine ⟨us, hD5, by rw [← za5.length]; exact hz, r5, h5, acc ++ [y5], us ++ [u], (ex4.trans e5.toEx).trans xg, hh5, fun a ha => ?_, ⟨e5.lkk.trans lkk4, fun a ha => ?_⟩, q5.grow mD5, upd_same, (za5.append (.cons zu .nil)).ex xg, by omega, p'⟩
                have hne : a ≠ D := fun e => (q1.hid a ha).2 (by rw [e]; exact nD)
                rw [upd_ne hne]
                exact (e5.hk a (by rw [hh4]; exact List.mem_cons_of_mem _ ha)).trans (hk4 a ha)
                have hne2 : a ≠ D := fun e => q1.lk_there ha (by rw [e]; exact nD)
                rw [upd_ne hne2]
                exact (e5.lks a (by rw [lkk4]; exact ha)).trans (lks4 a ha)
              · exact p'.elim
theorem lcL_noexc {src : Src} {g : GM} {tt : TM} {te : EM} {l : Loc} (c : Nat) (hc : HM) : ∀ (n i : Nat) (h : HM) (acc : List Val), lcL src g tt te l n i h acc ≠ .exc c hc
  | 0, i, h, acc => by simp only [lcL]; split <;> simp
  | n + 1, i, h, acc => by
    simp only [lcL]
    have ih := lcL_noexc (src := src) (g := g) (tt := tt) (te := te) (l := l) c hc n
    repeat' split
    all_goals first
      | exact ih _ _ _
      | simp
/-- post of a way that lets nothing out -/
theorem Post.w0 {α β : Type} {R : Ad → Hp → α → β → Prop} {Q : β → Hp → Prop} {x : Res α} (p : Post G W r H s R Q x) (np : ∀ c h, x ≠ .exc c h) : Post G W0 r H s R Q x := by
  cases x with
  | ok a h => exact p
  | exc c h => exact absurd rfl (np c h)
  | bad => exact p
variable {tg iter elt : Expr} {ifs : List Expr} {scope : Scope} {own : List (Str × Nat)} {pos : Pos} {mi : IM} {g : GM} {tt : TM} {te : EM} {ws : List Nat} {mk : List Val → HM → Res Val}
theorem lc_read {Q : VK} (hm : mk = frozen ∨ mk = fresh) (hv : ∀ v ∈ ws, v ∈ own.map (·.2)) (q : Rel G r h H) (hl : LR G r H l s) (p : Post G W r H s (VR G) Q (eLc mi g tt te (own.map (·.2)) mk l h)) :
    tLc (tI G W mi) (tG G ws g) (tT G W0 tt) (tE G W0 te) (own.map (·.2)) s H Q := by
  refine ⟨r, h, l, q, hl, (Post.bind p).imp fun J H1 ⟨r1, h1, src, e1, q1, z1, p1⟩ => fun D nD => ?_⟩
  have np := fun c hc => lcL_noexc (src := src) (g := g) (tt := tt) (te := te) (l := wipeL l (own.map (·.2))) c hc src.len 0 h1 []
  have np2 : ∀ c hc, (lcL src g tt te (wipeL l (own.map (·.2))) src.len 0 h1 []).bind mk ≠ .exc c hc := fun c hc => by
    cases e : lcL src g tt te (wipeL l (own.map (·.2))) src.len 0 h1 [] with
    | ok xs h2 => rcases hm with rfl | rfl <;> simp [frozen, fresh]
    | exc c' h' => exact absurd e (np c' h')
    | bad => simp
  refine lc_loop q1 z1 (hl.ext e1) hv nD ?_
  rcases hm with rfl | rfl
  · exact post_frozen q1 nD (p1.w0 np2) np
  · exact post_fresh q1 nD (p1.w0 np2) np
theorem me_lc (hm : mk = frozen ∨ mk = fresh) (hc : X.calm = true) (hN : X.N.Nodup) (hi : MI X G W tg iter mi) (ok : BlkOk X.N X.env.scope scope own)
    (hg : ∀ (s : Shared) (H : Hp) (C : Addr) (cl : List (Str × Addr)) (fp : List Addr), MG (X.blk s H scope (compEnvC scope cl C X.env) fp) G ws tg g) (ht : ∀ (s : Shared) (H : Hp) (C : Addr) (cl : List (Str × Addr)) (fp : List Addr), PTs (X.blk s H scope (compEnvC scope cl C X.env) fp) ifs (tT G W0 tt))
    (he : ∀ (s : Shared) (H : Hp) (C : Addr) (cl : List (Str × Addr)) (fp : List Addr), ME (X.blk s H scope (compEnvC scope cl C X.env) fp) G W0 elt te) (hv : ∀ v ∈ ws, v ∈ own.map (·.2)) (hs : ∀ x, foldedSetIterable iter X.env x = pure x := by intro _; rfl) :
    ME X G W (.ListComp elt [⟨tg, iter, ifs, 0⟩] scope pos) (eLc mi g tt te (own.map (·.2)) mk) :=
  ⟨fun pins s σ H Q I ⟨r, h, l, q, hl, p⟩ => (pe_lc hc hN hi ok hg ht he hs).run pins s σ H Q I (lc_read hm hv q hl p)⟩
theorem mts_nil : PTs X [] (tT G W0 tYesM) := ⟨fun pins s σ H Q I ⟨r, h, l, q, hl, p⟩ => pts_nil.run pins s σ H Q I (Post.here (R := REq) q rfl p)⟩
/-- name = [..] on one line, the name a local -/
theorem ms_setLc {i : Nat} {y : Str} {py spos : Pos} (hm : mk = frozen ∨ mk = fresh) (hc : X.calm = true) (hN : X.N.Nodup) (hy : X.N[i]? = some y) (hyl : X.env.scope.names.lookup y = some .local)
    (hsw : swapsWith (.ListComp elt [⟨tg, iter, ifs, 0⟩] scope pos) (some (.Name y py)) spos.line X.env = pure true) (hi : MI X G W tg iter mi) (ok : BlkOk X.N X.env.scope scope own)
    (hg : ∀ (s : Shared) (H : Hp) (C : Addr) (cl : List (Str × Addr)) (fp : List Addr), MG (X.blk s H scope (compEnvC scope cl C X.env) fp) G ws tg g) (ht : ∀ (s : Shared) (H : Hp) (C : Addr) (cl : List (Str × Addr)) (fp : List Addr), PTs (X.blk s H scope (compEnvC scope cl C X.env) fp) ifs (tT G W0 tt))
    (he : ∀ (s : Shared) (H : Hp) (C : Addr) (cl : List (Str × Addr)) (fp : List Addr), ME (X.blk s H scope (compEnvC scope cl C X.env) fp) G W0 elt te) (hv : ∀ v ∈ ws, v ∈ own.map (·.2)) (hs : ∀ x, foldedSetIterable iter X.env x = pure x := by intro _; rfl) :
    MS X G W (.Assign [.Name y py] (.ListComp elt [⟨tg, iter, ifs, 0⟩] scope pos) spos) (sAsg (eLc mi g tt te (own.map (·.2)) mk) (gNm i)) :=
  ⟨fun pins s σ H D I ⟨r, h, l, q, hl, p⟩ => (ps_setLc hc hN hy hyl hsw hi ok hg ht he hs).run pins s σ H D I (lc_read hm hv q hl ((Post.thn hl p).imp fun v H1 ⟨r1, h1, x1, e1, q1, z1, p1⟩ => p1 r1 H1 _ Ext.refl q1 ((hl.ext e1).set z1)))⟩
end
end MM
namespace MM
open PySem L2
section
variable {X : Cx} {G : Glob} {W : WX} {r r1 r2 : Ad} {H H1 H2 : Hp} {h h1 : HM} {l : Loc} {s : St} {K : PySem.W.Frag} {a : Addr} {xs : List Val} {vs : List V} {n k : Nat}
theorem srcR_tup (d : Rd H a (.tup vs)) (o : r.out a) (z : VRs G r H xs vs) : SrcR G r H (srcItems xs) (Itt K a) := by
  intro r2 H2 h2 e lk q
  obtain ⟨d2, o2⟩ := e.rd d o
  have z2 := z.ex e
  refine ⟨fun i x _ ex => ?_, fun _ => ⟨vs, .inl d2, by show vs.length ≤ xs.length; rw [z.length]; exact Nat.le_refl _⟩⟩
  obtain ⟨v, hv, zv⟩ := z2.get (show xs[i]? = some x from ex)
  refine ⟨⟨vs, v, .inl d2, hv⟩, fun v' H3 ⟨e3, y⟩ => ?_⟩
  subst e3
  have := y vs (.inl d2)
  rw [hv] at this; cases this
  exact ⟨Ext.refl, q, zv⟩
theorem srcR_lst (d : Rd H a (.lst vs)) (o : r.out a) (z : VRs G r H xs vs) : SrcR G r H (srcItems xs) (Itl K a) := by
  intro r2 H2 h2 e lk q
  obtain ⟨d2, o2⟩ := e.rd d o
  have z2 := z.ex e
  refine ⟨fun i x _ ex => ?_, fun _ => ⟨vs, .inl d2, by show vs.length ≤ xs.length; rw [z.length]; exact Nat.le_refl _⟩⟩
  obtain ⟨v, hv, zv⟩ := z2.get (show xs[i]? = some x from ex)
  refine ⟨⟨vs, v, .inl d2, hv⟩, fun v' H3 ⟨e3, y⟩ => ?_⟩
  subst e3
  have := y vs (.inl d2)
  rw [hv] at this; cases this
  exact ⟨Ext.refl, q, zv⟩
theorem lenIs_some (e : lenIs n k h = true) : ∃ xs, h[n]? = some (.lst xs) ∧ xs.length = k := by
  unfold lenIs at e
  split at e
  · rename_i xs hx; exact ⟨xs, hx, by simpa using e⟩
  · cases e
theorem Rel.lst_at (q : Rel G r h H) (e : r.ix[n]? = some a) (hn : h[n]? = some (.lst xs)) : ∃ vs, H a = some (.lst vs) ∧ VRs G r H xs vs := by
  cases q.ob n a _ e hn with
  | lst h1 h2 => exact ⟨_, h1, h2⟩
theorem srcR_ref (e0 : r.ix[n]? = some a) : SrcR G r H (srcRef n k) (Itl K a) := by
  intro r2 H2 h2 e lk q
  have e2 := pre_get e.pre e0
  refine ⟨fun i x hi ex => ?_, fun hk => ?_⟩
  · simp only [srcRef] at ex
    split at ex
    · rename_i hk
      obtain ⟨xs, hx, hl⟩ := lenIs_some hk
      obtain ⟨vs, d2, z2⟩ := q.lst_at e2 hx
      rw [hx] at ex
      obtain ⟨v, hv, zv⟩ := z2.get ex
      refine ⟨⟨vs, v, .inl (.inl d2), hv⟩, fun v' H3 ⟨e3, y⟩ => ?_⟩
      subst e3
      have := y vs (.inl (.inl d2))
      rw [hv] at this; cases this
      exact ⟨Ext.refl, q, zv⟩
    · cases ex
  · obtain ⟨xs, hx, hl⟩ := lenIs_some (show lenIs n k h2 = true from hk)
    obtain ⟨vs, d2, z2⟩ := q.lst_at e2 hx
    exact ⟨vs, .inl (.inl d2), by show vs.length ≤ k; rw [← hl, z2.length]; exact Nat.le_refl _⟩
def signs (x : Str) : List Val := x.cps.toList.map fun c => .str ⟨#[c]⟩
theorem srcR_str (x : Str) : SrcR G r H (srcItems (signs x)) (Its x) := by
  intro r2 H2 h2 e lk q
  refine ⟨fun i v _ ex => ?_, fun _ => by show x.cps.size ≤ (signs x).length; simp [signs]⟩
  have ex' : (signs x)[i]? = some v := ex
  simp only [signs, List.getElem?_map, Option.map_eq_some_iff] at ex'
  obtain ⟨c, hc, rfl⟩ := ex'
  have hlt := (List.getElem?_eq_some_iff.mp hc).1
  refine ⟨by show i < x.cps.size; simpa using hlt, fun v' H3 ⟨e3, c', hc', hv⟩ => ?_⟩
  subst e3 hv
  have : c = c' := by
    rw [Array.getElem?_toList] at hc
    rw [hc] at hc'; exact Option.some.inj hc'
  subst this
  exact ⟨Ext.refl, q, .str _⟩
def intsV (lo : Int) (n : Nat) : List Val := (List.range n).map fun (i : Nat) => .int (lo + (i : Nat))
theorem intsV_get {lo : Int} {n i : Nat} {x : Val} (e : (intsV lo n)[i]? = some x) : i < n ∧ x = .int (lo + (i : Nat)) := by
  simp only [intsV, List.getElem?_map, Option.map_eq_some_iff] at e
  obtain ⟨c, hc, rfl⟩ := e
  obtain ⟨h1, h2⟩ := List.getElem?_eq_some_iff.mp hc
  simp at h1 h2
  subst h2
  exact ⟨h1, rfl⟩
theorem srcR_range (lo : Int) (n : Nat) : SrcR G r H (srcItems (intsV lo n)) (Itr lo n) := by
  intro r2 H2 h2 e lk q
  refine ⟨fun i v _ ex => ?_, fun _ => by show n ≤ (intsV lo n).length; simp [intsV]⟩
  obtain ⟨h1, rfl⟩ := intsV_get ex
  refine ⟨h1, fun v' H3 ⟨e3, hv⟩ => ?_⟩
  subst e3 hv
  exact ⟨Ext.refl, q, .int _⟩
/-- a value walked -/
def srcOf (v : Val) (h : HM) : Res Src := match v with
  | .tup xs => .ok (srcItems xs) h
  | .ptup xs => .ok (srcItems xs) h
  | .lst xs => .ok (srcItems xs) h
  | .str x => .ok (srcItems (signs x)) h
  | .ref n => match h[n]? with
    | some (.lst xs) => .ok (srcRef n xs.length) h
    | _ => .bad
  | _ => .bad
def iVal (m : EM) : IM := fun l h => (m l h).bind srcOf
variable {tg e : Expr} {m : EM} {pos p : Pos}
theorem mi_val (he : ME X G W e m) : MI X G W tg e (iVal m) := by
  refine ⟨fun pins s σ H R I ⟨r, h, l, q, hl, pp⟩ => ?_⟩
  refine thn (he.run pins s σ H _ I ⟨r, h, l, q, hl, Post.bind pp⟩) fun v s1 ⟨x, H1, I1, rx, ⟨r1, h1, w1, e1, q1, z1, p1⟩⟩ => ?_
  cases z1 with
  | @tup a vs xs d o z =>
    cases rx
    have q2 : R (Itt X.K a) H1 := Post.here q1 (srcR_tup (.inl d) o z) p1
    obtain ⟨its, rv, pl, hz⟩ := I1.tuple (.inl (.inl d))
    refine wpAny_pyIter_tuple (show s1.heap.IsTuple a its.toArray from pl) ?_
    refine ⟨s1.heap.objs.size, [s1.heap.objs.size], _, _, H1, rfl, I1.kept (t' := s1.toks) fun b o e => Heap.get?_push_of_some _ e, turn_tuple a _, ⟨_, Heap.get?_push_size _ rfl, rfl, rfl⟩, fun b hb => ?_, q2⟩
    have e : b = s1.heap.objs.size := by simpa using hb
    subst e
    exact I1.fpOk (Nat.le_refl _) (I1.hok.fresh (Nat.le_refl _))
  | @ptup a ob vs xs d dn o z =>
    cases rx
    have q2 : R (Itt X.K a) H1 := Post.here q1 (srcR_tup (.inr ⟨_, d⟩) o z) p1
    obtain ⟨its, rv, pl, hz⟩ := I1.tuple (.inl (.inr ⟨_, d⟩))
    refine wpAny_pyIter_tuple (show s1.heap.IsTuple a its.toArray from pl) ?_
    refine ⟨s1.heap.objs.size, [s1.heap.objs.size], _, _, H1, rfl, I1.kept (t' := s1.toks) fun b o e => Heap.get?_push_of_some _ e, turn_tuple a _, ⟨_, Heap.get?_push_size _ rfl, rfl, rfl⟩, fun b hb => ?_, q2⟩
    have e : b = s1.heap.objs.size := by simpa using hb
    subst e
    exact I1.fpOk (Nat.le_refl _) (I1.hok.fresh (Nat.le_refl _))
  | @lst a vs xs d o z =>
    cases rx
    have q2 : R (Itl X.K a) H1 := Post.here q1 (srcR_lst (.inl d) o z) p1
    obtain ⟨its, rv, pl, hz⟩ := I1.list (.inl (.inl d))
    refine wpAny_pyIter_list pl.isList ?_
    refine ⟨s1.heap.objs.size, [s1.heap.objs.size], _, _, H1, rfl, I1.kept (t' := s1.toks) fun b o e => Heap.get?_push_of_some _ e, turn_list a _, ⟨_, Heap.get?_push_size _ rfl, rfl, rfl⟩, fun b hb => ?_, q2⟩
    have e : b = s1.heap.objs.size := by simpa using hb
    subst e
    exact I1.fpOk (Nat.le_refl _) (I1.hok.fresh (Nat.le_refl _))
  | @ref n a e0 =>
    cases rx
    simp only [srcOf] at p1
    split at p1
    · rename_i xs hx
      have q2 : R (Itl X.K a) H1 := Post.here q1 (srcR_ref e0) p1
      obtain ⟨vs, d2, z2⟩ := q1.lst_at e0 hx
      obtain ⟨its, rv, pl, hz⟩ := I1.list (.inl (.inl d2))
      refine wpAny_pyIter_list pl.isList ?_
      refine ⟨s1.heap.objs.size, [s1.heap.objs.size], _, _, H1, rfl, I1.kept (t' := s1.toks) fun b o e => Heap.get?_push_of_some _ e, turn_list a _, ⟨_, Heap.get?_push_size _ rfl, rfl, rfl⟩, fun b hb => ?_, q2⟩
      have e : b = s1.heap.objs.size := by simpa using hb
      subst e
      exact I1.fpOk (Nat.le_refl _) (I1.hok.fresh (Nat.le_refl _))
    · exact p1.elim
  | str x =>
    obtain ⟨t, rfl⟩ := rx
    have q2 : R (Its x) H1 := Post.here q1 (srcR_str x) p1
    cases ha : x.cps.all (· < 128)
    · exact wpAny_pyIter_wide ha (pi_one (tk := s1.toks) I1 _ (turn_str _ x t "str_iterator" (.inr rfl)) ⟨_, Heap.get?_push_size _ rfl, rfl, rfl⟩ q2)
    · exact wpAny_pyIter_ascii ha (pi_one (tk := s1.toks) I1 _ (turn_str _ x t "str_ascii_iterator" (.inl rfl)) ⟨_, Heap.get?_push_size _ rfl, rfl, rfl⟩ q2)
  | _ => exact p1.elim
def rng1 (xs : List Val) (h : HM) : Res Src := match xs with
  | [.int j] => if -(2 ^ 62) ≤ j ∧ j < 2 ^ 62 then .ok (srcItems (intsV 0 j.toNat)) h else .bad
  | _ => .bad
def rng2 (xs : List Val) (h : HM) : Res Src := match xs with
  | [.int i, .int j] => if -(2 ^ 62) ≤ i ∧ i < 2 ^ 62 ∧ -(2 ^ 62) ≤ j ∧ j < 2 ^ 62 then .ok (srcItems (intsV i (j - i).toNat)) h else .bad
  | _ => .bad
def iArgs (f : List Val → HM → Res Src) (m : AM) : IM := fun l h => (m l h).bind f
variable {a1 a2 : Expr} {ma : AM}
theorem mi_range1 (hg : Gl X "range") (hm : X.mg "range" = none) (ha : MA X G W [a1] ma) (hs : starEach [a1] X.env = [(false, eval a1 X.env)] := by rfl) : MI X G W tg (.Call (.Name "range" p) [a1] [] pos) (iArgs rng1 ma) := by
  refine ⟨fun pins s σ H R I ⟨r, h, l, q, hl, pp⟩ => (pi_range1 hg hm ha hs).run pins s σ H R I ⟨r, h, l, q, hl, (Post.bind pp).imp fun vs H1 ⟨r1, h1, w1, e1, q1, z1, p1⟩ => ?_⟩⟩
  dsimp only [rng1] at p1
  split at p1
  · rename_i j
    split at p1
    · rename_i hj
      cases z1 with
      | cons z2 z3 => cases z3; cases z2; exact ⟨j, rfl, hj.1, hj.2, Post.here q1 (srcR_range 0 _) p1⟩
    · exact p1.elim
  · exact p1.elim
theorem mi_range2 (hg : Gl X "range") (hm : X.mg "range" = none) (ha : MA X G W [a1, a2] ma) (hs : starEach [a1, a2] X.env = [(false, eval a1 X.env), (false, eval a2 X.env)] := by rfl) (hs2 : starEach [a2] X.env = [(false, eval a2 X.env)] := by rfl) : MI X G W tg (.Call (.Name "range" p) [a1, a2] [] pos) (iArgs rng2 ma) := by
  refine ⟨fun pins s σ H R I ⟨r, h, l, q, hl, pp⟩ => (pi_range2 hg hm ha hs hs2).run pins s σ H R I ⟨r, h, l, q, hl, (Post.bind pp).imp fun vs H1 ⟨r1, h1, w1, e1, q1, z1, p1⟩ => ?_⟩⟩
  dsimp only [rng2] at p1
  split at p1
  · rename_i i j
    split at p1
    · rename_i hj
      cases z1 with
      | cons z2 z3 => cases z3 with | cons z4 z5 => cases z5; cases z2; cases z4; exact ⟨i, j, rfl, hj, Post.here q1 (srcR_range i _) p1⟩
    · exact p1.elim
  · exact p1.elim
/-- a list's items (a tuple's are asked apart) -/
def seqL (v : Val) (h : HM) : Option (List Val) := match v with
  | .lst xs => some xs
  | .ref n => match h[n]? with
    | some (.lst xs) => some xs
    | _ => none
  | _ => none
theorem seqL_ok (q : Rel G r h H) {v : Val} {x : V} (z : VR G r H v x) (e : seqL v h = some xs) : ∃ a vs, x = .ref a ∧ H a = some (.lst vs) ∧ VRs G r H xs vs := by
  cases z with
  | lst d o zz => cases e; exact ⟨_, _, rfl, d, zz⟩
  | ref e0 =>
    simp only [seqL] at e
    split at e
    · rename_i ys hx
      cases e
      obtain ⟨vs, d, zz⟩ := q.lst_at e0 hx
      exact ⟨_, vs, rfl, d, zz⟩
    · cases e
  | _ => cases e
def numbered : Nat → List Val → List Val
  | _, [] => []
  | i, x :: xs => .tup [.int (i : Nat), x] :: numbered (i + 1) xs
theorem numbered_get {xs : List Val} : ∀ {k i : Nat}, (numbered k xs)[i]? = (xs[i]?).map fun x => .tup [.int ((k + i : Nat) : Int), x] := by
  induction xs with
  | nil => intro k i; simp [numbered]
  | cons x xs ih =>
    intro k i
    cases i with
    | zero => simp [numbered]
    | succ i => simp only [numbered, List.getElem?_cons_succ, ih]; congr 2; funext x; congr 3; omega
theorem numbered_len {xs : List Val} : ∀ {k : Nat}, (numbered k xs).length = xs.length := by
  induction xs with
  | nil => intro k; rfl
  | cons x xs ih => intro k; simp [numbered, ih]
def zipV : List Val → List Val → List Val
  | x :: xs, y :: ys => .tup [x, y] :: zipV xs ys
  | _, _ => []
theorem zipV_get {xs : List Val} : ∀ {ys : List Val} {i : Nat} {x : Val}, (zipV xs ys)[i]? = some x → ∃ a b, xs[i]? = some a ∧ ys[i]? = some b ∧ x = .tup [a, b] := by
  induction xs with
  | nil => intro ys i x e; simp [zipV] at e
  | cons x0 xs ih =>
    intro ys i x e
    cases ys with
    | nil => simp [zipV] at e
    | cons y0 ys =>
      cases i with
      | zero => simp [zipV] at e; exact ⟨_, _, rfl, rfl, e.symm⟩
      | succ i => exact ih (by simpa [zipV] using e)
theorem zipV_len {xs : List Val} : ∀ {ys : List Val}, (zipV xs ys).length = min xs.length ys.length := by
  induction xs with
  | nil => intro ys; simp [zipV]
  | cons x0 xs ih =>
    intro ys
    cases ys with
    | nil => simp [zipV]
    | cons y0 ys => simp only [zipV, List.length_cons, ih]; omega
def tupL : Val → Option (List Val)
  | .tup xs => some xs
  | .ptup xs => some xs
  | _ => none
theorem tupL_ok {v : Val} {x : V} (z : VR G r H v x) (e : tupL v = some xs) : ∃ a vs, x = .ref a ∧ Rd H a (.tup vs) ∧ r.out a ∧ VRs G r H xs vs := by
  cases z with
  | tup d o zz => cases e; exact ⟨_, _, rfl, .inl d, o, zz⟩
  | ptup d dn o zz => cases e; exact ⟨_, _, rfl, .inr ⟨_, d⟩, o, zz⟩
  | _ => cases e
def zip2 (xs : List Val) (h : HM) : Res Src := match xs with
  | [.lst xs, .lst ys] => .ok (srcItems (zipV xs ys)) h
  | [a, b] => (match tupL a, tupL b with
    | some xs, some ys => .ok (srcItems (zipV xs ys)) h
    | _, _ => .bad)
  | _ => .bad
theorem srcR_zipL {b : Addr} {ys : List Val} {ws : List V} (d : Rd H a (.lst vs)) (o : r.out a) (z : VRs G r H xs vs) (d' : Rd H b (.lst ws)) (o' : r.out b) (z' : VRs G r H ys ws) : SrcR G r H (srcItems (zipV xs ys)) (Itz K a b) := by
  intro r2 H2 h2 e lk q
  obtain ⟨d2, o2⟩ := e.rd d o
  obtain ⟨d2', o2'⟩ := e.rd d' o'
  have z2 := z.ex e
  have z2' := z'.ex e
  refine ⟨fun i x _ ex => ?_, fun _ => ⟨vs, ws, .inl d2, .inl d2', ?_⟩⟩
  · obtain ⟨x0, y0, hx0, hy0, rfl⟩ := zipV_get (show (zipV xs ys)[i]? = some x from ex)
    obtain ⟨v, hv, zv⟩ := z2.get hx0
    obtain ⟨v', hv', zv'⟩ := z2'.get hy0
    refine ⟨⟨vs, ws, v, v', .inl d2, .inl d2', hv, hv'⟩, fun u H3 ⟨T, y, y', ev, nT, e3, hy, hy'⟩ => ?_⟩
    subst ev e3
    have t1 := hy vs (.inl d2)
    have t2 := hy' ws (.inl d2')
    rw [hv] at t1; cases t1
    rw [hv'] at t2; cases t2
    exact ⟨ext_new q nT, q.laid nT, .tup upd_same (q.new nT) (.cons (zv.ext (ext_new q nT)) (.cons (zv'.ext (ext_new q nT)) .nil))⟩
  · show vs.length ≤ (zipV xs ys).length ∨ ws.length ≤ (zipV xs ys).length
    rw [zipV_len, z.length, z'.length]; omega
theorem srcR_zipT {b : Addr} {ys : List Val} {ws : List V} (d : Rd H a (.tup vs)) (o : r.out a) (z : VRs G r H xs vs) (d' : Rd H b (.tup ws)) (o' : r.out b) (z' : VRs G r H ys ws) : SrcR G r H (srcItems (zipV xs ys)) (RZ.ItzT K a b) := by
  intro r2 H2 h2 e lk q
  obtain ⟨d2, o2⟩ := e.rd d o
  obtain ⟨d2', o2'⟩ := e.rd d' o'
  have z2 := z.ex e
  have z2' := z'.ex e
  refine ⟨fun i x _ ex => ?_, fun _ => ⟨vs, ws, .inl d2, .inl d2', ?_⟩⟩
  · obtain ⟨x0, y0, hx0, hy0, rfl⟩ := zipV_get (show (zipV xs ys)[i]? = some x from ex)
    obtain ⟨v, hv, zv⟩ := z2.get hx0
    obtain ⟨v', hv', zv'⟩ := z2'.get hy0
    refine ⟨⟨vs, ws, v, v', .inl d2, .inl d2', hv, hv'⟩, fun u H3 ⟨T, y, y', ev, nT, e3, hy, hy'⟩ => ?_⟩
    subst ev e3
    have t1 := hy vs (.inl d2)
    have t2 := hy' ws (.inl d2')
    rw [hv] at t1; cases t1
    rw [hv'] at t2; cases t2
    exact ⟨ext_new q nT, q.laid nT, .tup upd_same (q.new nT) (.cons (zv.ext (ext_new q nT)) (.cons (zv'.ext (ext_new q nT)) .nil))⟩
  · show vs.length ≤ (zipV xs ys).length ∨ ws.length ≤ (zipV xs ys).length
    rw [zipV_len, z.length, z'.length]; omega
theorem mi_zip {elts : List Expr} {kk : Nat} {tpos : Pos} (hg : Gl X "zip") (hm : X.mg "zip" = none) (ha : MA X G W [a1, a2] ma) (hs : starEach [a1, a2] X.env = (false, eval a1 X.env) :: starEach [a2] X.env := by rfl) (hpl : (backTo pos (starEach [a2] X.env)).any (·.1) = false := by rfl) :
    MI X G W (.Tuple elts kk tpos) (.Call (.Name "zip" p) [a1, a2] [] pos) (iArgs zip2 ma) := by
  refine ⟨fun pins s σ H R I ⟨r, h, l, q, hl, pp⟩ => (RZ.pi_zipA hg hm ha hs hpl).run pins s σ H R I ⟨r, h, l, q, hl, (Post.bind pp).imp fun vs H1 ⟨r1, h1, w1, e1, q1, z1, p1⟩ => ?_⟩⟩
  dsimp only [zip2] at p1
  split at p1
  · cases z1 with
    | cons z2 z3 => cases z3 with | cons z4 z5 => cases z5; cases z2 with | lst d o z => cases z4 with | lst d' o' z' => exact ⟨_, _, _, _, rfl, .inl ⟨.inl (.inl d), .inl (.inl d'), Post.here q1 (srcR_zipL (.inl d) o z (.inl d') o' z') p1⟩⟩
  · split at p1
    · rename_i xs ys e1' e2'
      cases z1 with
      | cons z2 z3 => cases z3 with
        | cons z4 z5 =>
          cases z5
          obtain ⟨a, vs, rfl, d, o, z⟩ := tupL_ok z2 e1'
          obtain ⟨b, ws, rfl, d', o', z'⟩ := tupL_ok z4 e2'
          exact ⟨_, _, _, _, rfl, .inr ⟨.inl d, .inl d', Post.here q1 (srcR_zipT d o z d' o' z') p1⟩⟩
    · exact p1.elim
  · exact p1.elim
end
end MM
namespace MM
open PySem L2
def PostF (G : Glob) (r : Ad) (H : Hp) (Q : VK) (E : XK) : Res Val → Prop
  | .ok v h' => ∀ r' H' u, Ext r H r' H' → Rel G r' h' H' → VR G r' H' v u → Q u H'
  | .exc c h' => ∀ r' H' C, Ext r H r' H' → Rel G r' h' H' → G.exc c = some C → E (.ref C) none H'
  | .bad => False
def spM (G : Glob) (n : Nat) (m : FM) : Sp := fun vs H Q E => vs.length = n ∧ ∃ r h xs, Rel G r h H ∧ VRs G r H xs vs ∧ PostF G r H Q E (m xs h)
/-- the function that a body is; n: its names -/
def mF (n : Nat) (b : SM) : FM := fun xs h => match b (xs.map some ++ List.replicate (n - xs.length) none) h with
  | .nx _ h1 => .ok .non h1
  | .rt v h1 => .ok v h1
  | .exc c _ h1 => .exc c h1
  | .bad => .bad
/-- the def at f does what m does -/
def FnM (P : Program) (w : World) (K : PySem.W.Frag) (mg : Str → Option Value) (base : Heap) (G : Glob) (k : Nat) (f : Addr) (n : Nat) (m : FM) : Prop :=
  ∃ fd ps, FnOk P w K mg base (L2.CX P w) k f fd ps (spM G n m) ∧ Binds K fd ps [] ∧ PySem.W.keepIn K (.ref f) = true
section
variable {P : Program} {w : World} {K : PySem.W.Frag} {mg : Str → Option Value} {base : Heap} {G : Glob} {k j : Nat} {f : Addr} {n : Nat} {m m' : FM}
theorem VRs.start {r : Ad} {H : Hp} {xs : List Val} {vs : List V} (z : VRs G r H xs vs) (N : List Str) : LR G r H (xs.map some ++ List.replicate (N.length - xs.length) none) (start N vs) := by
  have hl := z.length
  refine ⟨by simp [L2.start, hl], fun i v e => ?_⟩
  by_cases hi : i < xs.length
  · rw [List.getElem?_append_left (by simpa using hi)] at e
    simp only [List.getElem?_map, Option.map_eq_some_iff] at e
    obtain ⟨x, hx, ex⟩ := e
    cases ex
    obtain ⟨u, hu, zu⟩ := z.get hx
    refine ⟨u, ?_, zu⟩
    unfold L2.start
    rw [List.getElem?_append_left (by simp; omega)]
    simp [hu]
  · rw [List.getElem?_append_right (by simpa using Nat.le_of_not_lt hi)] at e
    rw [List.getElem?_replicate] at e
    split at e <;> cases e
theorem FnM.mono (F : FnM P w K mg base G j f n m) (h : j ≤ k) : FnM P w K mg base G k f n m :=
  let ⟨fd, ps, a, b, c⟩ := F
  ⟨fd, ps, a.mono h, b, c⟩
theorem FnM.imp (F : FnM P w K mg base G k f n m) (h : ∀ r h H xs vs Q E, Rel G r h H → VRs G r H xs vs → xs.length = n → PostF G r H Q E (m' xs h) → PostF G r H Q E (m xs h)) : FnM P w K mg base G k f n m' := by
  obtain ⟨fd, ps, a, b, c⟩ := F
  refine ⟨fd, ps, a.imp fun vs H Q E ⟨hl, r, h1, xs, q, z, p⟩ => ⟨hl, r, h1, xs, q, z, h r h1 H xs vs Q E q z (z.length.trans hl) p⟩, b, c⟩
theorem FnM.of {x qual : Str} {params : Arguments} {body : List Stmt} {scope : Scope} {fd : FuncData} {N ps : List Str} {b : SM} (F : FunD K x qual params body scope [] [] f fd) (S : FnScope N ps scope)
    (hb : ∀ (kV doc pm : Value) (an : Option Addr) (cdv ct : Value) (us : List Value), us.length = ps.length → bindArgs (PySem.W.fnOf x qual params body scope .none kV doc pm an cdv ct) ⟨us, []⟩ = pure (ps.zip us))
    (hbody : ∀ (cdv : Value) (A : Around) (outer : List Env) (s : Shared) (H : Hp) (E : XK), Room k (A.deeper (PyProof.Rows.envOfC qual scope s.heap.objs.size f cdv)) →
      MSs (cxOf (L2.CX P w) P w K mg base N qual scope f cdv A outer s H E) G (fun cls d _ H => E cls d H) body b) : FnM P w K mg base G (k + 1) f ps.length (mF N.length b) := by
  refine ⟨fd, ps, ?_, F.bindsN hb, F.kp⟩
  refine F.ok S (fun vs H Q E h => h.1) (fun cdv A outer s H vs Q E hr h => ⟨_, hbody cdv A outer s H E hr, ?_⟩)
  obtain ⟨hl, r, h1, xs, q, z, p⟩ := h
  refine ⟨r, h1, _, q, z.start N, ?_⟩
  unfold mF at p
  revert p
  cases b (xs.map some ++ List.replicate (N.length - xs.length) none) h1 with
  | nx l h2 => exact fun p r' H' s' e q' _ => p r' H' _ e q' .non
  | rt v h2 => exact fun p => p
  | exc c l h2 => exact fun p r' H' s' C e q' _ g => p r' H' C e q' g
  | bad => exact fun p => p
end
def ALen (m : AM) (n : Nat) : Prop := ∀ l h xs h1, m l h = .ok xs h1 → xs.length = n
theorem al_nil : ALen aNil 0 := fun l h xs h1 e => by cases e; rfl
theorem al_cons {a : EM} {t : AM} {n : Nat} (h : ALen t n) : ALen (aCons a t) (n + 1) := fun l h0 xs h1 e => by
  unfold aCons at e
  cases ea : a l h0 with
  | ok x h2 =>
    rw [ea] at e
    simp only [Res.bind_ok] at e
    cases et : t l h2 with
    | ok ys h3 =>
      rw [et] at e
      simp only [Res.bind_ok] at e
      cases e
      simp [h l h2 ys _ et]
    | exc c h3 => rw [et] at e; cases e
    | bad => rw [et] at e; cases e
  | exc c h2 => rw [ea] at e; cases e
  | bad => rw [ea] at e; cases e
def eCall (m : FM) (as : AM) : EM := fun l h => (as l h).bind m
section
variable {X : Cx} {G : Glob} {W : WX} {r r1 : Ad} {H H1 : Hp} {h : HM} {l : Loc} {s : St} {k n : Nat} {f : Addr} {m : FM} {x : Str} {p pos : Pos} {e : Expr} {es : List Expr} {ma : AM}
theorem PostF.of {Q : VK} {x : Res Val} (q : Post G W r H s (VR G) Q x) : PostF G r H Q (fun c d H => W c d s H) x := by
  cases x with
  | ok v h => exact q
  | exc c h => exact q
  | bad => exact q
theorem me_call (F : FnM X.prog X.w X.K X.mg X.base G k f n m) (hr : Room k X.A) (tk : Takes X W) (hg : Gl X x) (hm : X.mg x = some (.ref f)) (ha : MA X G W (e :: es) ma) (hl : ALen ma n)
    (hdb : (x == ("__debug__" : Str)) = false := by decide) (he : starEach (e :: es) X.env = (false, eval e X.env) :: starEach es X.env := by rfl) (hpl : (backTo pos (starEach es X.env)).any (·.1) = false := by rfl) :
    ME X G W (.Call (.Name x p) (e :: es) [] pos) (eCall m ma) := by
  obtain ⟨fd, ps, F, hb, hk⟩ := F
  refine ⟨fun pins s σ H Q I ⟨r, h, l, q, hl', pp⟩ => (pe_callS (E := WE W) F hr hg hm hk hb (fun σ => passAt tk σ) ha hdb he hpl).run pins s σ H Q I ⟨r, h, l, q, hl', ?_⟩⟩
  unfold eCall at pp
  cases ea : ma l h with
  | ok xs h1 =>
    rw [ea] at pp
    exact fun r' H' vs e' q' z => ⟨z.length.symm.trans (hl _ _ _ _ ea), r', h1, xs, q', z, PostF.of (W := W) (Post.shift e' pp)⟩
  | exc c h1 => rw [ea] at pp; exact pp
  | bad => rw [ea] at pp; exact pp
def isIns (c : Nat) (v : Val) (h : HM) : Bool := match v with
  | .ref n => (match h[n]? with
    | some (.ins c' _) => c' == c
    | _ => false)
  | _ => false
theorem ins_at {c : Nat} {v : Val} {x : V} (q : Rel G r h H) (z : VR G r H v x) (e : isIns c v h = true) : ∃ a C dx fv, x = .ref a ∧ H a = some (.ins C dx fv) ∧ G.cls c = some C ∧ fv.map (·.1) = (G.flds c).take fv.length := by
  unfold isIns at e
  cases z with
  | @ref n a e0 =>
    simp only at e
    split at e
    · rename_i c' vs hn
      have : c' = c := by simpa using e
      subst this
      cases q.ob n a _ e0 hn with
      | ins h1 h2 h3 h4 => exact ⟨a, _, _, _, rfl, h1, h2, h3⟩
    · cases e
  | _ => cases e
def eMeth (c : Nat) (m : FM) (mo : EM) (as : AM) : EM := fun l h => (mo l h).bind fun o h1 => if isIns c o h1 = true then (as l h1).bind fun xs h2 => m (o :: xs) h2 else .bad
theorem lookup_none {f : Str} {fs : List Str} : ∀ {fv : List (Str × V)}, (∀ g ∈ fv.map (·.1), g ≠ f) → fv.lookup f = none
  | [], _ => rfl
  | (g, v) :: r, h => by
    have hg : g ≠ f := h g (by simp)
    have hb : (f == g) = false := beq_eq_false_iff_ne.mpr (Ne.symm hg)
    simp only [List.lookup, hb]
    exact lookup_none (fs := fs) fun g' hg' => h g' (by simp at hg' ⊢; exact .inr hg')
theorem no_fld {c : Nat} {fv : List (Str × V)} {mn : Str} (hn : fv.map (·.1) = (G.flds c).take fv.length) (hf : mn ∉ G.flds c) : fv.lookup mn = none :=
  lookup_none (fs := []) fun g hg e => hf (by
    subst e
    rw [hn] at hg
    exact List.mem_of_mem_take hg)
variable {o : Expr} {mo : EM} {c : Nat} {C : Addr} {mn : Str} {apos : Pos}
theorem run_fnM {pins : List (Addr × Obj)} {s : Shared} {σ : St} {Q : VK} {us : List Value} {vs : List V} {xs : List Val} (F : FnM X.prog X.w X.K X.mg X.base G k f n m) (hr : Room k X.A) (tk : Takes X W) (I : Inv X pins σ H s) (rv : Vals vs us) (q : Rel G r h H) (z : VRs G r H xs vs)
    (hl : xs.length = n) (pp : Post G W r H σ (VR G) Q (m xs h)) : wpAny (model X.prog X.w) X.A (call (.ref f) us) (EP X pins σ Q) X.xe s := by
  obtain ⟨fd, ps, F, hb, hk⟩ := F
  exact run_fnS (E := WE W) F hr hb (passAt tk σ) I rv ⟨z.length.symm.trans hl, r, h, xs, q, z, PostF.of (W := W) pp⟩
theorem me_meth {pl : Sem Bool} (ho : ME X G W o mo) (hc : G.cls c = some C) (cl : Cls X.K C) (hm : Meth X.K C mn f) (hf : mn ∉ G.flds c) (F : FnM X.prog X.w X.K X.mg X.base G k f (n + 1) m) (hr : Room k X.A) (tk : Takes X W) (ha : MA X G W (e :: es) ma) (hl : ALen ma n)
    (hst : starEach (e :: es) X.env = (false, eval e X.env) :: starEach es X.env := by rfl) (hpl : (backTo pos (starEach es X.env)).any (·.1) = false := by rfl)
    (ht : eval (.Call (.Attribute o mn apos) (e :: es) [] pos) X.env = (do
      let ov ← eval o X.env
      standAt apos.atName
      let (f, first) ← holding [ov] (getMethod ov mn pl)
      callWith pos f first (backTo pos (starEach (e :: es) X.env)) (backToKw pos (keywordEach [] X.env))) := by rfl) :
    ME X G W (.Call (.Attribute o mn apos) (e :: es) [] pos) (eMeth c m mo ma) := by
  refine ⟨fun pins s σ H Q I ⟨r, h, l, q, hl', pp⟩ => ?_⟩
  refine PySem.W.methodCall_KW (pl := pl) (thn (ho.run pins s σ H _ I ⟨r, h, l, q, hl', Post.bind pp⟩) fun u s1 ⟨x, H1, I1, rx, ⟨r1, h1, v1, e1, q1, z1, p1⟩⟩ => ?_) ht
  dsimp only at p1
  split at p1
  · rename_i hi
    obtain ⟨a, C', dx, fv, rfl, hH, hC', hn⟩ := ins_at q1 z1 hi
    rw [hc] at hC'; cases hC'
    obtain rfl : u = Value.ref a := rx
    refine getmeth_ok I1 hH cl hm (no_fld hn hf) ?_
    refine PySem.W.callWith_K (first := [.ref a]) (h₀ := X.base) I.ok.mod.kin hm.kp (thn (ha.run pos pins s1 σ H1 (fun vs H2 => ∃ r2 h2 xs, Ext r1 H1 r2 H2 ∧ Rel G r2 h2 H2 ∧ VRs G r2 H2 xs vs ∧ xs.length = n ∧ Post G W r2 H2 σ (VR G) Q (m (v1 :: xs) h2)) I1 ⟨r1, h1, l, q1, hl'.ext e1, ?_⟩) fun us s2 ⟨vs, H2, I2, rr, r2, h2, xs, e2, q2, z2, hl2, p2⟩ => ⟨I2.kIn, ?_⟩) hst hpl
    · cases ea : ma l h1 with
      | ok xs h2 => rw [ea] at p1; exact fun r' H' vs e' q' z => ⟨r', h2, xs, e', q', z, hl _ _ _ _ ea, Post.shift e' p1⟩
      | exc c h2 => rw [ea] at p1; exact p1
      | bad => rw [ea] at p1; exact p1
    · exact run_fnM (us := .ref a :: us) (vs := .ref a :: vs) F hr tk I2 (.cons rfl rr) q2 (.cons (z1.ext e2) z2) (by simp [hl2]) p2
  · exact p1.elim
def eMake (c : Nat) (m : FM) (as : AM) : EM := fun l h => (as l h).bind fun xs h1 => (m (.ref h1.length :: xs) (h1 ++ [.ins c []])).bind fun v h2 => match v with
  | .non => .ok (.ref h1.length) h2
  | _ => .bad
theorem me_make {c : Nat} {C : Addr} (M : Mk X.K C f) (hc : G.cls c = some C) (F : FnM X.prog X.w X.K X.mg X.base G k f (n + 1) m) (hr : Room (k + 1) X.A) (tk : Takes X W) (hg : Gl X x) (hm : X.mg x = some (.ref C)) (ha : MA X G W (e :: es) ma) (hl : ALen ma n) (nx : ∀ xs h c' h', m xs h ≠ .exc c' h')
    (hdb : (x == ("__debug__" : Str)) = false := by decide) (he : starEach (e :: es) X.env = (false, eval e X.env) :: starEach es X.env := by rfl) (hpl : (backTo pos (starEach es X.env)).any (·.1) = false := by rfl) :
    ME X G W (.Call (.Name x p) (e :: es) [] pos) (eMake c m ma) := by
  obtain ⟨fd, ps, F, hb, hk⟩ := F
  refine ⟨fun pins s σ H Q I ⟨r, h, l, q, hl', pp⟩ => (pe_make (E := E0) M F hr hg hm hb .nil passL ha hdb he hpl).run pins s σ H Q I ⟨r, h, l, q, hl', ?_⟩⟩
  unfold eMake at pp
  cases ea : ma l h with
  | ok xs h1 =>
    rw [ea] at pp
    intro r' H' vs e' q' z y dx ny ndx nxy
    simp only [Res.bind_ok] at pp
    have q2 := q'.laid (o := .own y) ndx
    have x2 := ext_new (o := .own y) q' ndx
    have ny2 : (upd H' dx (.own y)) y = none := by rw [upd_ne (Ne.symm nxy)]; exact ny
    have x3 := ext_alloc (o := .ins C dx []) q2 ny2
    have q3 : Rel G (r'.push y) (h1 ++ [.ins c []]) (upd (upd H' dx (.own y)) y (.ins C dx [])) := q2.alloc ny2 (.ins upd_same hc (by simp) .nil)
    have ex := (e'.trans x2).trans x3
    refine ⟨?_, r'.push y, h1 ++ [.ins c []], .ref h1.length :: xs, q3, .cons (.ref ?_) (by rw [List.append_nil]; exact z.ext (x2.trans x3)), ?_⟩
    · have := hl _ _ _ _ ea
      simp [← z.length, this]
    · rw [← q'.len]; exact get_last
    · cases em : m (.ref h1.length :: xs) (h1 ++ [.ins c []]) with
      | ok v h2 =>
        rw [em] at pp
        intro r4 H4 u e4 q4 z4
        simp only [Res.bind_ok] at pp
        cases z4 with
        | non =>
          refine ⟨rfl, pp r4 H4 _ (ex.trans e4) q4 (.ref ?_)⟩
          refine pre_get e4.pre ?_
          rw [← q'.len]; exact get_last
        | _ => exact pp.elim
      | exc c' h' => exact absurd em (nx _ _ _ _)
      | bad => rw [em] at pp; exact pp
  | exc c h1 => rw [ea] at pp; exact pp
  | bad => rw [ea] at pp; exact pp
def getF (c i : Nat) (v : Val) (h : HM) : Res Val := match v with
  | .ref n => (match h[n]? with
    | some (.ins c' vs) => if c' = c then (match vs[i]? with
      | some y => .ok y h
      | none => .bad) else .bad
    | _ => .bad)
  | _ => .bad
theorem lookup_at {fs : List Str} (nd : fs.Nodup) {i : Nat} {fn : Str} (hi : fs[i]? = some fn) : ∀ {fv : List (Str × V)}, fv.map (·.1) = fs.take fv.length → ∀ {y : V}, (fv.map (·.2))[i]? = some y → fv.lookup fn = some y := by
  intro fv hf y hy
  induction fv generalizing fs i with
  | nil => simp at hy
  | cons p fv ih =>
    cases fs with
    | nil => simp at hi
    | cons g fs =>
      simp only [List.map_cons, List.length_cons, List.take_succ_cons, List.cons.injEq] at hf
      cases i with
      | zero =>
        simp at hi hy
        subst hi hy
        obtain ⟨a, b⟩ := p
        simp only at hf
        simp [List.lookup, hf.1]
      | succ i =>
        have hne : fn ≠ p.1 := by
          rw [hf.1]
          intro e
          subst e
          exact (List.nodup_cons.mp nd).1 (List.mem_of_getElem? (by simpa using hi))
        obtain ⟨a, b⟩ := p
        have hb : (fn == a) = false := beq_eq_false_iff_ne.mpr hne
        simp only [List.lookup, hb]
        exact ih (List.nodup_cons.mp nd).2 (by simpa using hi) hf.2 (by simpa using hy)
def eFld (c i : Nat) (mo : EM) : EM := fun l h => (mo l h).bind (getF c i)
theorem me_fld {c i : Nat} {C : Addr} {fn : Str} (ho : ME X G W o mo) (hc : G.cls c = some C) (cl : Cls X.K C) (na : NoAttr X.K C fn) (nd : (G.flds c).Nodup) (hi : (G.flds c)[i]? = some fn) (hb : attributeBase o fn X.env (eval o X.env) = eval o X.env := by rfl) : ME X G W (.Attribute o fn pos) (eFld c i mo) := by
  refine ⟨fun pins s σ H Q I ⟨r, h, l, q, hl', pp⟩ => (pe_fld ho hb).run pins s σ H Q I ⟨r, h, l, q, hl', (Post.bind pp).imp fun x H1 ⟨r1, h1, v1, e1, q1, z1, p1⟩ => ?_⟩⟩
  unfold getF at p1
  cases z1 with
  | @ref n a e0 =>
    simp only at p1
    split at p1
    · rename_i c' vs hn
      split at p1
      · rename_i hcc
        subst hcc
        split at p1
        · rename_i y hy
          cases q1.ob n a _ e0 hn with
          | ins h1 h2 h3 h4 =>
            rw [hc] at h2; cases h2
            obtain ⟨u, hu, zu⟩ := h4.get hy
            exact ⟨a, C, _, _, u, rfl, h1, cl, na, lookup_at nd hi h3 hu, Post.here q1 zu p1⟩
        · exact p1.elim
      · exact p1.elim
    · exact p1.elim
  | _ => exact p1.elim
theorem putF_at {fs : List Str} (nd : fs.Nodup) {i : Nat} {fn : Str} (hi : fs[i]? = some fn) (y : V) : ∀ {fv : List (Str × V)}, fv.map (·.1) = fs.take fv.length → i ≤ fv.length →
    ((putF fn y fv).map (·.1) = fs.take (putF fn y fv).length) ∧ (putF fn y fv).map (·.2) = if i < fv.length then (fv.map (·.2)).set i y else fv.map (·.2) ++ [y] := by
  intro fv hf hle
  induction fv generalizing fs i with
  | nil =>
    have : i = 0 := by simpa using hle
    subst this
    cases fs with
    | nil => simp at hi
    | cons g fs => simp at hi; subst hi; simp [putF]
  | cons p fv ih =>
    obtain ⟨a, b⟩ := p
    cases fs with
    | nil => simp at hi
    | cons g fs =>
      simp only [List.map_cons, List.length_cons, List.take_succ_cons, List.cons.injEq] at hf
      cases i with
      | zero =>
        simp at hi
        subst hi
        simp [putF, hf.1, hf.2]
      | succ i =>
        obtain ⟨hf1, hf2⟩ := hf
        have hne : ¬ a = fn := by
          rw [hf1]
          intro e
          subst e
          exact (List.nodup_cons.mp nd).1 (List.mem_of_getElem? (by simpa using hi))
        obtain ⟨j1, j2⟩ := ih (List.nodup_cons.mp nd).2 (by simpa using hi) hf2 (by simpa using hle)
        have e0 : putF fn y ((a, b) :: fv) = (a, b) :: putF fn y fv := by
          show (if a = fn then (a, y) :: fv else (a, b) :: putF fn y fv) = _
          rw [if_neg hne]
        rw [e0]
        refine ⟨by simp only [List.map_cons, List.length_cons, List.take_succ_cons, j1, hf1], ?_⟩
        simp only [List.map_cons, List.length_cons, j2]
        by_cases hlt : i < fv.length
        · simp [hlt]
        · simp [hlt]
def setF (c i : Nat) (v y : Val) (h : HM) : Option HM := match v with
  | .ref n => (match h[n]? with
    | some (.ins c' vs) => if c' = c ∧ i ≤ vs.length ∧ vs.length < 1000 then some (h.set n (.ins c (if i < vs.length then vs.set i y else vs ++ [y]))) else none
    | _ => none)
  | _ => none
def sFldM (c i : Nat) (mo mv : EM) : SM := fun l h => (mv l h).thn l fun y h1 => (mo l h1).thn l fun o h2 => match setF c i o y h2 with
  | some h3 => .nx l h3
  | none => .bad
theorem ms_fld {c i : Nat} {C : Addr} {fn : Str} {pos' : Pos} {v : Expr} {mv : EM} (ho : ME X G W o mo) (hv : ME X G W v mv) (hc : G.cls c = some C) (cl : Cls X.K C) (na : NoAttr X.K C fn) (nd : (G.flds c).Nodup) (hi : (G.flds c)[i]? = some fn) (hs : swapsWith v (some (.Attribute o fn pos')) pos.line X.env = pure false := by rfl) :
    MS X G W (.Assign [.Attribute o fn pos'] v pos) (sFldM c i mo mv) := by
  refine ⟨fun pins s σ H D I ⟨r, h, l, q, hl, p⟩ => (ps_fld ho hv hs).run pins s σ H D I ⟨r, h, l, q, hl, (Post.thn hl p).imp fun y H1 ⟨r1, h1, v1, e1, q1, z1, p1⟩ => ?_⟩⟩
  refine ⟨r1, h1, l, q1, hl.ext e1, (Post.thn (hl.ext e1) p1).imp fun x H2 ⟨r2, h2, v2, e2, q2, z2, p2⟩ => ?_⟩
  have zy := z1.ext e2
  unfold setF at p2
  cases z2 with
  | @ref n a e0 =>
    simp only at p2
    cases hn : h2[n]? with
    | none => rw [hn] at p2; exact p2.elim
    | some ob =>
      rw [hn] at p2
      cases ob with
      | ins c' vs =>
        simp only at p2
        split at p2
        · rename_i h3 hcond
          split at hcond
          · rename_i hcc
            cases hcond
            obtain ⟨hc1, hc2, hc3⟩ := hcc
            subst hc1
            cases q2.ob n a _ e0 hn with
            | @ins _ C' dx _ fv g1 g2 g3 g4 =>
              rw [hc] at g2; cases g2
              have nf : ∀ o u, H2 a ≠ some (.frz o u) := fun o u z => by rw [g1] at z; cases z
              have hlen : vs.length = fv.length := by simpa using g4.length
              obtain ⟨k1, k2⟩ := putF_at nd hi y g3 (by omega)
              refine ⟨a, C, _, _, rfl, g1, cl, na, by omega, ?_⟩
              refine p2 r2 _ σ (ext_write q2 e0 nf) (q2.write e0 nf (.ins upd_same hc k1 ?_)) ((hl.ext e1).ext e2 |>.ext (ext_write q2 e0 nf))
              rw [k2, hlen]
              have g4' := g4.ext (ext_write q2 (o := .ins C dx (putF fn y fv)) e0 nf)
              have zy' := zy.ext (ext_write q2 (o := .ins C dx (putF fn y fv)) e0 nf)
              split
              · exact g4'.set i zy'
              · exact g4'.append (.cons zy' .nil)
          · cases hcond
        · exact p2.elim
      | _ => exact p2.elim
  | _ => exact p2.elim
def sRaise (c : Nat) : SM := fun l h => .exc c l h
theorem ms_raise {c : Nat} {C : Addr} {B newId initId : String} {bmB : List Value} {mt : Str} {j : Nat} {p2 pos' : Pos} (hc : X.calm = true) (tk : Takes X W) (F : ExcBaseFacts B newId initId bmB) (qx : PySem.W.excIn X.K C bmB newId = true) (he : G.exc c = some C) (gC : X.mg x = some (.ref C)) (kC : PySem.W.keepIn X.K (.ref C) = true) (rz : Raises X (.ref C)) (hg : Gl X x)
    (hdb : (x == ("__debug__" : Str)) = false := by decide) : MS X G W (.Raise (some (.Call (.Name x p) [.Constant (.str mt) j p2] [] pos)) none pos') (sRaise c) :=
  ⟨fun pins s σ H D I ⟨r, h, l, q, hl, p⟩ => (ps_raise hc tk (pmk_own F qx gC kC rz hg hdb)).run pins s σ H D I (p r H σ C Ext.refl q hl he)⟩
end
end MM
namespace MM
open PySem L2
section
variable {X : Cx} {G : Glob} {W : WX} {r r1 r2 : Ad} {H H1 H2 : Hp} {h h1 : HM} {l : Loc} {s : St} {K : PySem.W.Frag} {a : Addr} {xs : List Val} {vs : List V} {n k : Nat}
def vAdd (a b : Val) (h : HM) : Res Val := match a, b with
  | .int i, .int j => .ok (.int (i + j)) h
  | .str x, .str y => if x.length + y.length ≤ sizeLine then .ok (.str (x ++ y)) h else .bad
  | .tup xs, .tup ys => if xs.length + ys.length ≤ sizeLine then .ok (.tup (xs ++ ys)) h else .bad
  | .ptup xs, .tup ys => if xs.length + ys.length ≤ sizeLine then .ok (if xs.isEmpty then .tup ys else if ys.isEmpty then .ptup xs else .tup (xs ++ ys)) h else .bad
  | .tup xs, .ptup ys => if xs.length + ys.length ≤ sizeLine then .ok (if xs.isEmpty then .ptup ys else if ys.isEmpty then .tup xs else .tup (xs ++ ys)) h else .bad
  | .ptup xs, .ptup ys => if xs.length + ys.length ≤ sizeLine then .ok (if xs.isEmpty then .ptup ys else if ys.isEmpty then .ptup xs else .tup (xs ++ ys)) h else .bad
  | a, b => match seqL a h, seqL b h with
    | some xs, some ys => if xs.length + ys.length ≤ sizeLine then .ok (.lst (xs ++ ys)) h else .bad
    | _, _ => .bad
theorem VRs.nil_iff (z : VRs G r H xs vs) : xs = [] ↔ vs = [] := by cases z <;> simp
theorem post_cat {Q : VK} {ys : List Val} {ws : List V} (q : Rel G r h H) (z : VRs G r H xs vs) (z' : VRs G r H ys ws) (p : Post G W r H s (VR G) Q (.ok (.lst (xs ++ ys)) h)) : ∀ p, H p = none → Q (.ref p) (upd H p (.lst (vs ++ ws))) := fun a n =>
  p r _ _ (ext_new q n) (q.laid n) (.lst upd_same (q.new n) ((z.append z').ext (ext_new q n)))
theorem om_add : OpM X G (binaryOp .Add) vAdd := by
  intro W pins s σ H r h a b x y v u Q I q za zb rx ry p
  have hl : ∀ xs ys, seqL a h = some xs → seqL b h = some ys → Post G W r H σ (VR G) Q (if xs.length + ys.length ≤ sizeLine then .ok (.lst (xs ++ ys)) h else .bad) → wpAny (model X.prog X.w) X.A (binaryOp .Add v u) (EP X pins σ Q) X.xe s := by
    intro xs ys ea eb p
    obtain ⟨l, vs, rfl, d, z⟩ := seqL_ok q za ea
    obtain ⟨l2, ws, rfl, d2, z2⟩ := seqL_ok q zb eb
    split at p
    · rename_i hz
      exact op_cat pins s σ H _ _ v u Q I rx ry ⟨l, l2, vs, ws, rfl, rfl, d, d2, by rw [← z.length, ← z2.length]; exact hz, post_cat q z z2 p⟩
    · exact p.elim
  have hl2 : Post G W r H σ (VR G) Q (match seqL a h, seqL b h with | some xs, some ys => if xs.length + ys.length ≤ sizeLine then .ok (.lst (xs ++ ys)) h else .bad | _, _ => .bad) → wpAny (model X.prog X.w) X.A (binaryOp .Add v u) (EP X pins σ Q) X.xe s := by
    intro p
    cases ea : seqL a h with
    | none => rw [ea] at p; exact p.elim
    | some xs =>
      cases eb : seqL b h with
      | none => rw [ea, eb] at p; exact p.elim
      | some ys => rw [ea, eb] at p; exact hl xs ys ea eb p
  have ht : ∀ {vx vy : Val} {xs ys : List Val}, VR G r H vx x → VR G r H vy y → tupL vx = some xs → tupL vy = some ys → Post G W r H σ (VR G) Q (if xs.length + ys.length ≤ sizeLine then .ok (if xs.isEmpty then vy else if ys.isEmpty then vx else .tup (xs ++ ys)) h else .bad) → wpAny (model X.prog X.w) X.A (binaryOp .Add v u) (EP X pins σ Q) X.xe s := by
    intro vx vy xs ys zx zy ex ey p
    split at p
    · rename_i hz
      obtain ⟨a, vs, rfl, d, o, z⟩ := tupL_ok zx ex
      obtain ⟨b, ws, rfl, d2, o2, z2⟩ := tupL_ok zy ey
      refine op_catA pins s σ H _ _ v u Q I rx ry ⟨a, b, vs, ws, rfl, rfl, .inl d, .inl d2, by rw [← z.length, ← z2.length]; exact hz, fun e => ?_, fun e1 e => ?_, fun e1 e2 a' n => ?_⟩
      · have h1 := z.nil_iff.mpr e
        subst h1
        exact Post.here q zy p
      · have h1 : xs.isEmpty = false := by have : xs ≠ [] := fun h => e1 (z.nil_iff.mp h); cases xs <;> simp_all
        have h2 := z2.nil_iff.mpr e
        subst h2
        rw [h1] at p
        exact Post.here q zx p
      · have h1 : xs.isEmpty = false := by have : xs ≠ [] := fun h => e1 (z.nil_iff.mp h); cases xs <;> simp_all
        have h2 : ys.isEmpty = false := by have : ys ≠ [] := fun h => e2 (z2.nil_iff.mp h); cases ys <;> simp_all
        rw [h1, h2] at p
        exact p r _ _ (ext_new q n) (q.laid n) (.tup upd_same (q.new n) ((z.append z2).ext (ext_new q n)))
    · exact p.elim
  cases za with
  | @ptup a ob vs xs d dn o z =>
    cases zb with
    | @tup b ws ys d2 o2 z2 => exact ht (.ptup d dn o z) (.tup d2 o2 z2) rfl rfl p
    | @ptup b ob2 ws ys d2 dn2 o2 z2 => exact ht (.ptup d dn o z) (.ptup d2 dn2 o2 z2) rfl rfl p
    | _ => exact hl2 p
  | int i =>
    cases zb with
    | int j => exact op_add pins s σ H _ _ v u Q I rx ry ⟨i, j, rfl, rfl, Post.here q (.int _) p⟩
    | _ => exact hl2 p
  | str i =>
    cases zb with
    | str j =>
      dsimp only [vAdd] at p
      split at p
      · rename_i hz
        exact op_add_str pins s σ H _ _ v u Q I rx ry ⟨i, j, rfl, rfl, hz, Post.here q (.str _) p⟩
      · exact p.elim
    | _ => exact hl2 p
  | @tup a vs xs d o z =>
    cases zb with
    | @tup b ws ys d2 o2 z2 =>
      dsimp only [vAdd] at p
      split at p
      · rename_i hz
        refine op_catA pins s σ H _ _ v u Q I rx ry ⟨a, b, vs, ws, rfl, rfl, .inl (.inl d), .inl (.inl d2), by rw [← z.length, ← z2.length]; exact hz, fun e => ?_, fun _ e => ?_, fun _ _ a' n => ?_⟩
        · have := z.nil_iff.mpr e
          subst this
          exact Post.here q (.tup d2 o2 z2) p
        · have := z2.nil_iff.mpr e
          subst this
          rw [List.append_nil] at p
          exact Post.here q (.tup d o z) p
        · exact p r _ _ (ext_new q n) (q.laid n) (.tup upd_same (q.new n) ((z.append z2).ext (ext_new q n)))
      · exact p.elim
    | @ptup b ob2 ws ys d2 dn2 o2 z2 => exact ht (.tup d o z) (.ptup d2 dn2 o2 z2) rfl rfl p
    | _ => exact hl2 p
  | _ => exact hl2 p
def vSub (a b : Val) (h : HM) : Res Val := match a, b with
  | .int i, .int j => .ok (.int (i - j)) h
  | _, _ => .bad
def vMod (a b : Val) (h : HM) : Res Val := match a, b with
  | .int i, .int j => if 0 < j then .ok (.int (i % j)) h else .bad
  | _, _ => .bad
def vMul (a b : Val) (h : HM) : Res Val := match a, b with
  | .int i, .int j => if (-(2 ^ 64) < i ∧ i < 2 ^ 64) ∨ (-(2 ^ 64) < j ∧ j < 2 ^ 64) then .ok (.int (i * j)) h else .bad
  | .str x, .int j => if x.length ≤ 16 ∧ -(2 ^ 63) ≤ j ∧ j ≤ ((1048576 : Nat) : Int) then .ok (.str (Txt.mul x j)) h else .bad
  | a, .int j => match seqL a h with
    | some xs => if -(2 ^ 63) ≤ j ∧ j < 2 ^ 63 ∧ xs.length * j.toNat ≤ sizeLine then .ok (.lst (List.replicate j.toNat xs).flatten) h else .bad
    | none => .bad
  | _, _ => .bad
theorem om_ii {f : Value → Value → Sem Value} {g : VOp} {C : Int → Int → Prop} {o : Int → Int → V} {o' : Int → Int → Val} (ho : OpR X f (rI C o)) (hv : ∀ i j r H, VR G r H (o' i j) (o i j))
    (hg : ∀ a b h, (∃ i j, a = .int i ∧ b = .int j ∧ ((C i j ∧ g a b h = .ok (o' i j) h) ∨ g a b h = .bad)) ∨ g a b h = .bad) : OpM X G f g := by
  intro W pins s σ H r h a b x y v u Q I q za zb rx ry p
  rcases hg a b h with ⟨i, j, rfl, rfl, ⟨hc, e⟩ | e⟩ | e
  · rw [e] at p
    cases za
    cases zb
    exact ho pins s σ H _ _ v u Q I rx ry ⟨i, j, rfl, rfl, hc, Post.here q (hv i j r H) p⟩
  · rw [e] at p; exact p.elim
  · rw [e] at p; exact p.elim
theorem rI_of {f : Value → Value → Sem Value} {o : Int → Int → V} (ho : OpR X f (rI0 o)) : OpR X f (rI (fun _ _ => True) o) := fun pins s σ H x y v u Q I rx ry ⟨i, j, ex, ey, _, q⟩ => ho pins s σ H x y v u Q I rx ry ⟨i, j, ex, ey, q⟩
theorem om_sub : OpM X G (binaryOp .Sub) vSub := om_ii (rI_of op_sub) (o' := fun i j => .int (i - j)) (fun _ _ _ _ => .int _) fun a b h => by
  cases a with
  | int i => cases b with
    | int j => exact .inl ⟨i, j, rfl, rfl, .inl ⟨trivial, rfl⟩⟩
    | _ => exact .inr rfl
  | _ => exact .inr rfl
theorem om_mod : OpM X G (binaryOp .Mod) vMod := om_ii op_mod (o' := fun i j => .int (i % j)) (fun _ _ _ _ => .int _) fun a b h => by
  cases a with
  | int i => cases b with
    | int j =>
      refine .inl ⟨i, j, rfl, rfl, ?_⟩
      by_cases hj : 0 < j
      · exact .inl ⟨hj, if_pos hj⟩
      · exact .inr (if_neg hj)
    | _ => exact .inr rfl
  | _ => exact .inr rfl
theorem om_mul : OpM X G (binaryOp .Mult) vMul := by
  intro W pins s σ H r h a b x y v u Q I q za zb rx ry p
  cases zb with
  | int j =>
    have hl : Post G W r H σ (VR G) Q (match seqL a h with | some xs => if -(2 ^ 63) ≤ j ∧ j < 2 ^ 63 ∧ xs.length * j.toNat ≤ sizeLine then .ok (.lst (List.replicate j.toNat xs).flatten) h else .bad | none => .bad) → wpAny (model X.prog X.w) X.A (binaryOp .Mult v u) (EP X pins σ Q) X.xe s := by
      intro p
      cases ea : seqL a h with
      | none => rw [ea] at p; exact p.elim
      | some xs =>
        rw [ea] at p
        dsimp only at p
        split at p
        · rename_i hz
          obtain ⟨l, vs, rfl, d, z⟩ := seqL_ok q za ea
          refine op_rep pins s σ H _ _ v u Q I rx ry ⟨l, j, vs, rfl, rfl, d, hz.1, hz.2.1, by rw [← z.length]; exact hz.2.2, fun a' n => ?_⟩
          have zz : VRs G r H (List.replicate j.toNat xs).flatten (List.replicate j.toNat vs).flatten := by
            generalize j.toNat = k
            induction k with
            | zero => exact .nil
            | succ k ih => rw [List.replicate_succ, List.replicate_succ, List.flatten_cons, List.flatten_cons]; exact z.append ih
          exact p r _ _ (ext_new q n) (q.laid n) (.lst upd_same (q.new n) (zz.ext (ext_new q n)))
        · exact p.elim
    cases za with
    | int i =>
      dsimp only [vMul] at p
      split at p
      · rename_i hc
        exact op_mul pins s σ H _ _ v u Q I rx ry ⟨i, j, rfl, rfl, hc, Post.here q (.int _) p⟩
      · exact p.elim
    | str i =>
      dsimp only [vMul] at p
      split at p
      · rename_i hc
        obtain ⟨t, rfl⟩ := rx
        obtain ⟨t', rfl⟩ := ry
        exact PySem.W.KXi.mul (n := i.length) rfl hc.1 hc.2.1 hc.2.2 fun t' k _ _ => ⟨.str (Txt.mul i j), H, I.tok _, ⟨_, rfl⟩, Post.here q (.str _) p⟩
      · exact p.elim
    | _ => exact hl p
  | _ => cases za <;> exact p.elim
def vLt (a b : Val) (h : HM) : Res Val := match a, b with
  | .int i, .int j => .ok (.bl (decide (i < j))) h
  | _, _ => .bad
def vLe (a b : Val) (h : HM) : Res Val := match a, b with
  | .int i, .int j => .ok (.bl (decide (i ≤ j))) h
  | _, _ => .bad
def vGt (a b : Val) (h : HM) : Res Val := match a, b with
  | .int i, .int j => .ok (.bl (decide (j < i))) h
  | _, _ => .bad
def vGe (a b : Val) (h : HM) : Res Val := match a, b with
  | .int i, .int j => .ok (.bl (decide (j ≤ i))) h
  | _, _ => .bad
theorem om_le : OpM X G (compareOp .LtE) vLe := om_ii (rI_of op_le) (o' := fun i j => .bl (decide (i ≤ j))) (fun _ _ _ _ => .bl _) fun a b h => by
  cases a with
  | int i => cases b with
    | int j => exact .inl ⟨i, j, rfl, rfl, .inl ⟨trivial, rfl⟩⟩
    | _ => exact .inr rfl
  | _ => exact .inr rfl
theorem om_gt : OpM X G (compareOp .Gt) vGt := om_ii (rI_of op_gt) (o' := fun i j => .bl (decide (j < i))) (fun _ _ _ _ => .bl _) fun a b h => by
  cases a with
  | int i => cases b with
    | int j => exact .inl ⟨i, j, rfl, rfl, .inl ⟨trivial, rfl⟩⟩
    | _ => exact .inr rfl
  | _ => exact .inr rfl
theorem om_ge : OpM X G (compareOp .GtE) vGe := om_ii (rI_of op_ge) (o' := fun i j => .bl (decide (j ≤ i))) (fun _ _ _ _ => .bl _) fun a b h => by
  cases a with
  | int i => cases b with
    | int j => exact .inl ⟨i, j, rfl, rfl, .inl ⟨trivial, rfl⟩⟩
    | _ => exact .inr rfl
  | _ => exact .inr rfl
theorem om_lt : OpM X G (compareOp .Lt) vLt := om_ii (rI_of op_lt) (o' := fun i j => .bl (decide (i < j))) (fun _ _ _ _ => .bl _) fun a b h => by
  cases a with
  | int i => cases b with
    | int j => exact .inl ⟨i, j, rfl, rfl, .inl ⟨trivial, rfl⟩⟩
    | _ => exact .inr rfl
  | _ => exact .inr rfl
end
end MM
namespace MM
open PySem L2
mutual
def datF : Val → Option PyData
  | .non => some .none
  | .bl b => some (.bool b)
  | .int i => some (.int i)
  | .str x => some (.str x)
  | .tup xs => (datFs xs).map .tuple
  | .lst xs => (datFs xs).map .list
  | .ptup xs => (datFs xs).map .tuple
  | _ => none
def datFs : List Val → Option (List PyData)
  | [] => some []
  | x :: xs => match datF x, datFs xs with
    | some d, some ds => some (d :: ds)
    | _, _ => none
end
def dat (v : Val) (h : HM) : Option PyData := match v with
  | .ref n => (match h[n]? with
    | some (.lst xs) => (datFs xs).map .list
    | _ => none)
  | v => datF v
section
variable {X : Cx} {G : Glob} {W : WX} {r r1 r2 : Ad} {H H1 H2 : Hp} {h h1 : HM} {l : Loc} {s : St} {K : PySem.W.Frag} {a : Addr} {xs : List Val} {vs : List V} {n k : Nat}
mutual
theorem datF_ok {v : Val} {x : V} {d : PyData} (z : VR G r H v x) (e : datF v = some d) : Dp K H x d := by
  match v, x, z with
  | _, _, .non => cases e; exact .non
  | _, _, .bl b => cases e; exact .bl b
  | _, _, .int i => cases e; exact .int i
  | _, _, .str x => cases e; exact .str x
  | .tup xs, _, .tup dd o q =>
    simp only [datF, Option.map_eq_some_iff] at e
    obtain ⟨ds, e1, rfl⟩ := e
    exact .tup (.inl (.inl dd)) (datFs_ok q e1)
  | .lst xs, _, .lst dd o q =>
    simp only [datF, Option.map_eq_some_iff] at e
    obtain ⟨ds, e1, rfl⟩ := e
    exact .lst (.inl (.inl dd)) (datFs_ok q e1)
  | .ptup xs, _, .ptup dd dn o q =>
    simp only [datF, Option.map_eq_some_iff] at e
    obtain ⟨ds, e1, rfl⟩ := e
    exact .tup (.inl (.inr ⟨_, dd⟩)) (datFs_ok q e1)
  | _, _, .ref _ => cases e
  | _, _, .fn _ => cases e
  | _, _, .ty _ => cases e
  | _, _, .scr _ => cases e
theorem datFs_ok {vs : List Val} {xs : List V} {ds : List PyData} (z : VRs G r H vs xs) (e : datFs vs = some ds) : DpAll K H xs ds := by
  match vs, xs, z with
  | _, _, .nil => cases e; exact .nil
  | v :: vs, _, .cons q t =>
    simp only [datFs] at e
    split at e
    · rename_i d ds' e1 e2
      cases e
      exact .cons (datF_ok q e1) (datFs_ok t e2)
    · cases e
end
theorem dat_ok {v : Val} {x : V} {d : PyData} (q : Rel G r h H) (z : VR G r H v x) (e : dat v h = some d) : Dp K H x d := by
  cases z with
  | ref e0 =>
    simp only [dat] at e
    split at e
    · rename_i ys hx
      simp only [Option.map_eq_some_iff] at e
      obtain ⟨ds, e1, rfl⟩ := e
      obtain ⟨vs, d, zz⟩ := q.lst_at e0 hx
      exact .lst (.inl (.inl d)) (datFs_ok zz e1)
    · cases e
  | non => exact datF_ok (G := G) (r := r) .non e
  | bl b => exact datF_ok (G := G) (r := r) (.bl b) e
  | int b => exact datF_ok (G := G) (r := r) (.int b) e
  | str b => exact datF_ok (G := G) (r := r) (.str b) e
  | tup a b c => exact datF_ok (.tup a b c) e
  | ptup a b c f => exact datF_ok (.ptup a b c f) e
  | lst a b c => exact datF_ok (.lst a b c) e
  | fn b => cases e
  | ty b => cases e
  | scr b => cases e
def vEq (a b : Val) (h : HM) : Res Val := match dat a h, dat b h with
  | some d, some e => if (SeqAt.shaped d && SeqAt.shaped e) = true then .ok (.bl (PyData.eqv d e)) h else .bad
  | _, _ => .bad
def vNe (a b : Val) (h : HM) : Res Val := match dat a h, dat b h with
  | some d, some e => if (SeqAt.shaped d && SeqAt.shaped e) = true then .ok (.bl (!PyData.eqv d e)) h else .bad
  | _, _ => .bad
theorem om_eq (hu : X.A.units + 64 < cLine) : OpM X G (compareOp .Eq) vEq := .of (op_eqD hu) fun W r h H s a b x y Q q za zb p => by
  unfold vEq at p
  split at p
  · rename_i d e ed ee
    split at p
    · rename_i hs
      rw [Bool.and_eq_true] at hs
      exact ⟨d, e, dat_ok q za ed, dat_ok q zb ee, hs.1, hs.2, Post.here q (.bl _) p⟩
    · exact p.elim
  · exact p.elim
theorem om_ne (hu : X.A.units + 64 < cLine) : OpM X G (compareOp .NotEq) vNe := .of (op_neD hu) fun W r h H s a b x y Q q za zb p => by
  unfold vNe at p
  split at p
  · rename_i d e ed ee
    split at p
    · rename_i hs
      rw [Bool.and_eq_true] at hs
      exact ⟨d, e, dat_ok q za ed, dat_ok q zb ee, hs.1, hs.2, Post.here q (.bl _) p⟩
    · exact p.elim
  · exact p.elim
def rInTD (K : PySem.W.Frag) (neg : Bool) : R2 := fun x y H Q => ∃ d ds, Dp K H x d ∧ Dp K H y (.tuple ds) ∧ SeqAt.shaped d = true ∧ SeqAt.shaped (.tuple ds) = true ∧ Q (.bl (neg ^^ ds.any fun z => PyData.eqv z d)) H
theorem op_inTD (hu : X.A.units + 65 < cLine) : OpR X (compareOp .In) (rInTD X.K false) := by
  intro pins s σ H x y v u Q I rx ry h
  obtain ⟨d, ds, hd, he, sd, se, q⟩ := h
  obtain ⟨as, r1⟩ := Dp.reads I d x v hd rx
  obtain ⟨bs, r2⟩ := Dp.reads I (.tuple ds) y u he ry
  exact SeqAt.in_tuple_reads r2 r1 (SeqAt.canLay_of_shaped se) (SeqAt.canLay_of_shaped sd) (PyProof.Rows.room_in_shaped sd hu) ⟨.bl _, H, I, rfl, by simpa using q⟩
theorem op_notInTD (hu : X.A.units + 65 < cLine) : OpR X (compareOp .NotIn) (rInTD X.K true) := by
  intro pins s σ H x y v u Q I rx ry h
  obtain ⟨d, ds, hd, he, sd, se, q⟩ := h
  obtain ⟨as, r1⟩ := Dp.reads I d x v hd rx
  obtain ⟨bs, r2⟩ := Dp.reads I (.tuple ds) y u he ry
  exact SeqAt.notIn_tuple_reads r2 r1 (SeqAt.canLay_of_shaped se) (SeqAt.canLay_of_shaped sd) (PyProof.Rows.room_in_shaped sd hu) ⟨.bl _, H, I, rfl, by simpa using q⟩
def keyOf : Val → Option Key
  | .int i => some (.inl i)
  | .str x => some (.inr x)
  | _ => none
def keysOf : List Val → Option (List Key)
  | [] => some []
  | x :: xs => match keyOf x, keysOf xs with
    | some k, some ks => some (k :: ks)
    | _, _ => none
def tkey : Val → Option (List Key)
  | .tup xs => keysOf xs
  | _ => none
def getK {κ : Type} [DecidableEq κ] (kvs : List (κ × Val)) (k : κ) : Option Val := (kvs.find? fun kv => decide (kv.1 = k)).map (·.2)
/-- what a dict holds at a key: none: no such question -/
def dGet (n : Nat) (y : Val) (h : HM) : Option (Option Val) := match h[n]? with
  | some (.dK kvs) => (keyOf y).map (getK kvs)
  | some (.lK kvs) => (keyOf y).map (getK kvs)
  | some (.dT kvs) => (tkey y).map (getK kvs)
  | some (.lT kvs) => (tkey y).map (getK kvs)
  | _ => none
theorem key_V {y : Val} {v : V} {k : Key} (z : VR G r H y v) (e : keyOf y = some k) : v = kV k := by
  cases z <;> cases e <;> rfl
theorem keys_V {ys : List Val} {vs : List V} {ks : List Key} (z : VRs G r H ys vs) (e : keysOf ys = some ks) : vs = ks.map kV := by
  induction ys generalizing vs ks with
  | nil => cases z; cases e; rfl
  | cons y ys ih =>
    cases z with
    | cons a b =>
      simp only [keysOf] at e
      split at e
      · rename_i k ks' e1 e2
        cases e
        rw [key_V a e1, ih b e2]
        rfl
      · cases e
theorem getK_ok {κ : Type} [DecidableEq κ] {kvs : List (κ × Val)} {kv : List (κ × V)} (q : KR G r H kvs kv) (k : κ) : (∀ v, getK kvs k = some v → ∃ u, valV kv k = some u ∧ VR G r H v u) ∧ (getK kvs k = none → valV kv k = none) := by
  induction q with
  | nil => exact ⟨fun v e => (by cases e), fun _ => rfl⟩
  | cons a b ih =>
    rename_i p p' xs ys
    by_cases e : p.1 = k
    · have e' : p'.1 = k := by rw [← a.1]; exact e
      have h1 : getK (p :: xs) k = some p.2 := by simp [getK, List.find?_cons, e]
      have h2 : valV (p' :: ys) k = some p'.2 := valV_pos e'
      rw [h1, h2]
      exact ⟨fun v ev => (by cases ev; exact ⟨_, rfl, a.2⟩), fun ev => (by cases ev)⟩
    · have e' : ¬ p'.1 = k := by rw [← a.1]; exact e
      have h1 : getK (p :: xs) k = getK xs k := by simp [getK, List.find?_cons, e]
      have h2 : valV (p' :: ys) k = valV ys k := valV_neg e'
      rw [h1, h2]
      exact ih
theorem dGet_ok {y : Val} {v : V} {o : Option Val} (q : Rel G r h H) (e0 : r.ix[n]? = some a) (z : VR G r H y v) (e : dGet n y h = some o) :
    (∀ w, o = some w → ∃ u, DGet H a v (some u) ∧ VR G r H w u) ∧ (o = none → DGet H a v none) := by
  unfold dGet at e
  cases hn : h[n]? with
  | none => rw [hn] at e; cases e
  | some ob =>
    rw [hn] at e
    have hob := q.ob n a ob e0 hn
    cases hob with
    | dK h1 h2 =>
      simp only [Option.map_eq_some_iff] at e
      obtain ⟨k, ek, rfl⟩ := e
      have hv := key_V z ek
      refine ⟨fun w ew => ?_, fun ew => ?_⟩
      · obtain ⟨u, hu, zu⟩ := (getK_ok h2 k).1 w ew
        exact ⟨u, .inl ⟨_, k, .inl h1, hv, hu.symm⟩, zu⟩
      · exact .inl ⟨_, k, .inl h1, hv, ((getK_ok h2 k).2 ew).symm⟩
    | lK h1 h2 =>
      simp only [Option.map_eq_some_iff] at e
      obtain ⟨k, ek, rfl⟩ := e
      have hv := key_V z ek
      refine ⟨fun w ew => ?_, fun ew => ?_⟩
      · obtain ⟨u, hu, zu⟩ := (getK_ok h2 k).1 w ew
        exact ⟨u, .inl ⟨_, k, .inr ⟨_, h1⟩, hv, hu.symm⟩, zu⟩
      · exact .inl ⟨_, k, .inr ⟨_, h1⟩, hv, ((getK_ok h2 k).2 ew).symm⟩
    | dT h1 h2 =>
      simp only [Option.map_eq_some_iff] at e
      obtain ⟨k, ek, rfl⟩ := e
      cases z with
      | tup d o zz =>
        have hv := keys_V zz ek
        subst hv
        refine ⟨fun w ew => ?_, fun ew => ?_⟩
        · obtain ⟨u, hu, zu⟩ := (getK_ok h2 k).1 w ew
          exact ⟨u, .inr ⟨_, k, _, .inl h1, rfl, d, hu.symm⟩, zu⟩
        · exact .inr ⟨_, k, _, .inl h1, rfl, d, ((getK_ok h2 k).2 ew).symm⟩
      | _ => cases ek
    | lT h1 h2 =>
      simp only [Option.map_eq_some_iff] at e
      obtain ⟨k, ek, rfl⟩ := e
      cases z with
      | tup d o zz =>
        have hv := keys_V zz ek
        subst hv
        refine ⟨fun w ew => ?_, fun ew => ?_⟩
        · obtain ⟨u, hu, zu⟩ := (getK_ok h2 k).1 w ew
          exact ⟨u, .inr ⟨_, k, _, .inr ⟨_, h1⟩, rfl, d, hu.symm⟩, zu⟩
        · exact .inr ⟨_, k, _, .inr ⟨_, h1⟩, rfl, d, ((getK_ok h2 k).2 ew).symm⟩
      | _ => cases ek
    | _ => cases e
/-- one sign, or any text, in a text -/
def inStr (x y : Str) : Bool := match x.cps.toList with
  | [c] => decide (c ∈ y.cps.toList)
  | _ => !(Builtin.Str.occurrences y x 0 y.length 1).isEmpty
def anyEq (d : PyData) (ds : List PyData) : Bool := ds.any fun z => PyData.eqv z d
/-- x in y, as a truth -/
def inB (a b : Val) (h : HM) : Option Bool := match a, b with
  | .str x, .str y => some (inStr x y)
  | a, .ref n => (match h[n]? with
    | some (.lst xs) => (match dat a h, datFs xs with
      | some d, some ds => if (SeqAt.shaped d && SeqAt.shaped (.list ds)) = true then some (anyEq d ds) else none
      | _, _ => none)
    | _ => (dGet n a h).map Option.isSome)
  | a, b => match dat a h, dat b h with
    | some d, some (.list ds) => if (SeqAt.shaped d && SeqAt.shaped (.list ds)) = true then some (anyEq d ds) else none
    | some d, some (.tuple ds) => if (SeqAt.shaped d && SeqAt.shaped (.tuple ds)) = true then some (anyEq d ds) else none
    | _, _ => none
def vIn (a b : Val) (h : HM) : Res Val := match inB a b h with
  | some k => .ok (.bl k) h
  | none => .bad
def vNotIn (a b : Val) (h : HM) : Res Val := match inB a b h with
  | some k => .ok (.bl (!k)) h
  | none => .bad
theorem inB_ok (hu : X.A.units + 65 < cLine) {pins : List (Addr × Obj)} {s : Shared} {σ : St} {x y : V} {v u : Value} {Q : VK} {va vb : Val} {k : Bool} (I : Inv X pins σ H s) (q : Rel G r h H) (za : VR G r H va x) (zb : VR G r H vb y) (rx : RelV x v) (ry : RelV y u) (e : inB va vb h = some k) :
    (Q (.bl k) H → wpAny (model X.prog X.w) X.A (compareOp .In v u) (EP X pins σ Q) X.xe s) ∧ (Q (.bl (!k)) H → wpAny (model X.prog X.w) X.A (compareOp .NotIn v u) (EP X pins σ Q) X.xe s) := by
  have gen : ∀ {va vb : Val} {x y : V} {v u : Value}, VR G r H va x → VR G r H vb y → RelV x v → RelV y u → (match dat va h, dat vb h with
    | some d, some (.list ds) => if (SeqAt.shaped d && SeqAt.shaped (.list ds)) = true then some (anyEq d ds) else none
    | some d, some (.tuple ds) => if (SeqAt.shaped d && SeqAt.shaped (.tuple ds)) = true then some (anyEq d ds) else none
    | _, _ => none) = some k → (Q (.bl k) H → wpAny (model X.prog X.w) X.A (compareOp .In v u) (EP X pins σ Q) X.xe s) ∧ (Q (.bl (!k)) H → wpAny (model X.prog X.w) X.A (compareOp .NotIn v u) (EP X pins σ Q) X.xe s) := by
    intro va vb x y v u za zb rx ry e
    split at e
    · rename_i d ds ed ee
      split at e
      · rename_i hs
        rw [Bool.and_eq_true] at hs
        cases e
        exact ⟨fun qq => op_inD hu pins s σ H x y v u Q I rx ry ⟨d, ds, dat_ok q za ed, dat_ok q zb ee, hs.1, hs.2, qq⟩, fun qq => op_notInD hu pins s σ H x y v u Q I rx ry ⟨d, ds, dat_ok q za ed, dat_ok q zb ee, hs.1, hs.2, qq⟩⟩
      · cases e
    · rename_i d ds ed ee
      split at e
      · rename_i hs
        rw [Bool.and_eq_true] at hs
        cases e
        exact ⟨fun qq => op_inTD hu pins s σ H x y v u Q I rx ry ⟨d, ds, dat_ok q za ed, dat_ok q zb ee, hs.1, hs.2, by simpa [anyEq] using qq⟩, fun qq => op_notInTD hu pins s σ H x y v u Q I rx ry ⟨d, ds, dat_ok q za ed, dat_ok q zb ee, hs.1, hs.2, by simpa [anyEq] using qq⟩⟩
      · cases e
    · cases e
  have za0 := za
  cases zb with
  | str y =>
    cases za with
    | str x =>
      have e : some (inStr x y) = some k := e
      cases e
      unfold inStr
      split
      · rename_i c hc
        have hx : x = ⟨#[c]⟩ := by
          cases x with | mk cps => congr 1; apply Array.toList_inj.mp; simpa using hc
        subst hx
        exact ⟨fun qq => op_in_sign pins s σ H _ _ v u Q I rx ry ⟨c, y, rfl, rfl, qq⟩, fun qq => op_notIn_sign pins s σ H _ _ v u Q I rx ry ⟨c, y, rfl, rfl, qq⟩⟩
      · exact ⟨fun qq => op_in_str pins s σ H _ _ v u Q I rx ry ⟨x, y, rfl, rfl, qq⟩, fun qq => op_notIn_str pins s σ H _ _ v u Q I rx ry ⟨x, y, rfl, rfl, qq⟩⟩
    | _ => exact gen za0 (.str y) rx ry e
  | @ref n a e0 =>
    have e : (match h[n]? with
    | some (.lst xs) => (match dat va h, datFs xs with
      | some d, some ds => if (SeqAt.shaped d && SeqAt.shaped (.list ds)) = true then some (anyEq d ds) else none
      | _, _ => none)
    | _ => (dGet n va h).map Option.isSome) = some k := by cases va <;> exact e
    split at e
    · rename_i xs hx
      refine gen za (.ref e0) rx ry ?_
      show (match dat va h, dat (.ref n) h with
        | some d, some (.list ds) => if (SeqAt.shaped d && SeqAt.shaped (.list ds)) = true then some (anyEq d ds) else none
        | some d, some (.tuple ds) => if (SeqAt.shaped d && SeqAt.shaped (.tuple ds)) = true then some (anyEq d ds) else none
        | _, _ => none) = some k
      have ed : dat (.ref n) h = (datFs xs).map .list := by simp only [dat, hx]
      rw [ed]
      revert e
      cases datFs xs with
      | none => cases dat va h <;> exact fun e => by cases e
      | some ds => cases dat va h with
        | none => exact fun e => by cases e
        | some d => exact fun e => e
    · simp only [Option.map_eq_some_iff] at e
      obtain ⟨o, eo, rfl⟩ := e
      obtain ⟨h1, h2⟩ := dGet_ok q e0 za eo
      have hu1 : X.A.units + 1 < cLine := by omega
      have hg : ∃ ov, DGet H a x ov ∧ ov.isSome = o.isSome := by
        cases o with
        | none => exact ⟨none, h2 rfl, rfl⟩
        | some w => obtain ⟨u, g, _⟩ := h1 w rfl; exact ⟨_, g, rfl⟩
      obtain ⟨ov, g, eq⟩ := hg
      obtain rfl : u = Value.ref a := ry
      rw [← eq]
      exact ⟨fun qq => d_in hu1 I g rx fun s3 I3 => ⟨.bl _, H, I3, rfl, qq⟩, fun qq => d_notIn hu1 I g rx fun s3 I3 => ⟨.bl _, H, I3, rfl, qq⟩⟩
  | tup b1 b2 b3 => exact gen za (.tup b1 b2 b3) rx ry (by cases va <;> exact e)
  | ptup b1 b2 b3 b4 => exact gen za (.ptup b1 b2 b3 b4) rx ry (by cases va <;> exact e)
  | lst b1 b2 b3 => exact gen za (.lst b1 b2 b3) rx ry (by cases va <;> exact e)
  | non => exact gen za .non rx ry (by cases va <;> exact e)
  | bl b => exact gen za (.bl b) rx ry (by cases va <;> exact e)
  | int b => exact gen za (.int b) rx ry (by cases va <;> exact e)
  | fn b => exact gen za (.fn b) rx ry (by cases va <;> exact e)
  | ty b => exact gen za (.ty b) rx ry (by cases va <;> exact e)
  | scr b => exact gen za (.scr b) rx ry (by cases va <;> exact e)
theorem om_in (hu : X.A.units + 65 < cLine) : OpM X G (compareOp .In) vIn := by
  intro W pins s σ H r h a b x y v u Q I q za zb rx ry p
  unfold vIn at p
  split at p
  · rename_i k e
    exact (inB_ok hu I q za zb rx ry e).1 (Post.here q (.bl _) p)
  · exact p.elim
/-- is None; is True, is False of a truth -/
def isB (a b : Val) : Option Bool := match a, b with
  | .non, .non => some true
  | _, .non => some false
  | .bl x, .bl y => some (decide (x = y))
  | _, _ => none
def vIs (a b : Val) (h : HM) : Res Val := match isB a b with
  | some k => .ok (.bl k) h
  | none => .bad
def vIsNot (a b : Val) (h : HM) : Res Val := match isB a b with
  | some k => .ok (.bl (!k)) h
  | none => .bad
theorem isN_V {v : Val} {x : V} (z : VR G r H v x) : isB v .non = some (decide (x = .non)) := by cases z <;> rfl
theorem om_is : OpM X G (compareOp .Is) vIs := by
  intro W pins s σ H r h a b x y v u Q I q za zb rx ry p
  cases zb with
  | non =>
    unfold vIs at p
    rw [isN_V za] at p
    exact op_isN pins s σ H _ _ v u Q I rx ry ⟨rfl, Post.here q (.bl _) p⟩
  | bl k =>
    cases za with
    | bl j => exact op_isBl pins s σ H _ _ v u Q I rx ry ⟨j, k, rfl, rfl, Post.here q (.bl _) p⟩
    | _ => exact p.elim
  | _ => cases za <;> exact p.elim
theorem om_isNot : OpM X G (compareOp .IsNot) vIsNot := by
  intro W pins s σ H r h a b x y v u Q I q za zb rx ry p
  cases zb with
  | non =>
    unfold vIsNot at p
    rw [isN_V za] at p
    exact op_notN pins s σ H _ _ v u Q I rx ry ⟨rfl, Post.here q (.bl _) p⟩
  | bl k =>
    cases za with
    | bl j => exact op_notBl pins s σ H _ _ v u Q I rx ry ⟨j, k, rfl, rfl, Post.here q (.bl _) p⟩
    | _ => exact p.elim
  | _ => cases za <;> exact p.elim
end
end MM
namespace MM
open PySem L2
section
variable {X : Cx} {G : Glob} {W : WX} {r r1 r2 : Ad} {H H1 H2 : Hp} {h h1 : HM} {l : Loc} {s : St} {K : PySem.W.Frag} {a : Addr} {xs : List Val} {vs : List V} {n k : Nat}
def ofO (o : Option Val) (h : HM) : Res Val := match o with
  | some v => .ok v h
  | none => .bad
def vIx (a b : Val) (h : HM) : Res Val := match a, b with
  | .tup xs, .int i => ofO (atI xs i) h
  | .ptup xs, .int i => ofO (atI xs i) h
  | .lst xs, .int i => ofO (atI xs i) h
  | .str x, .int i => if x.length ≤ sizeLine then ofO ((atI x.cps.toList i).map fun c => .str ⟨#[c]⟩) h else .bad
  | .scr ns, .int i => ofO ((atI ns i).map .int) h
  | .ref n, b => match h[n]?, b with
    | some (.lst xs), .int i => ofO (atI xs i) h
    | _, _ => (match dGet n b h with
      | some (some v) => .ok v h
      | _ => .bad)
  | _, _ => .bad
/-- what a subscript is, by values -/
def IxM (X : Cx) (G : Glob) (g : VOp) : Prop :=
  ∀ (W : WX) (value slice : Expr) (pins : List (Addr × Obj)) (s : Shared) (σ : St) (H : Hp) (r : Ad) (h : HM) (a b : Val) (x y : V) (v u : Value) (Q : VK), Inv X pins σ H s → Rel G r h H → VR G r H a x → VR G r H b y → RelV x v → RelV y u →
    Post G W r H σ (VR G) Q (g a b h) → subscripted slice false v u = operate [v, u] (getItem v u) → wpAny (model X.prog X.w) X.A (PyProof.Rows.subscriptTail value slice v u) (EP X pins σ Q) X.xe s
theorem atI_ok (z : VRs G r H xs vs) {i : Int} {v : Val} (e : atI xs i = some v) : ∃ u, atI vs i = some u ∧ VR G r H v u := by
  unfold L2.atI at e ⊢
  rw [← z.length]
  cases hj : L2.ixN xs.length i with
  | none => rw [hj] at e; cases e
  | some j =>
    rw [hj] at e
    obtain ⟨u, hu, zu⟩ := z.get e
    exact ⟨u, hu, zu⟩
theorem om_ix (hu : X.A.units + 1 < cLine) (hK : G.K = X.K := by rfl) : IxM X G vIx := by
  intro W value slice pins s σ H r h a b x y v u Q I q za zb rx ry p hs
  cases za with
  | @tup a vs xs d o z =>
    cases zb with
    | int i =>
      dsimp only [vIx] at p
      cases e : atI xs i with
      | none => rw [e] at p; exact p.elim
      | some w =>
        rw [e] at p
        obtain ⟨uu, hu, zu⟩ := atI_ok z e
        exact ix_tup value slice pins s σ H _ _ v u Q I rx ry ⟨a, vs, i, uu, rfl, rfl, .inl (.inl d), hu, Post.here q zu p⟩ hs
    | _ => exact p.elim
  | @ptup a ob vs xs d dn o z =>
    cases zb with
    | int i =>
      dsimp only [vIx] at p
      cases e : atI xs i with
      | none => rw [e] at p; exact p.elim
      | some w =>
        rw [e] at p
        obtain ⟨uu, hu, zu⟩ := atI_ok z e
        exact ix_tup value slice pins s σ H _ _ v u Q I rx ry ⟨a, vs, i, uu, rfl, rfl, .inl (.inr ⟨_, d⟩), hu, Post.here q zu p⟩ hs
    | _ => exact p.elim
  | @lst a vs xs d o z =>
    cases zb with
    | int i =>
      dsimp only [vIx] at p
      cases e : atI xs i with
      | none => rw [e] at p; exact p.elim
      | some w =>
        rw [e] at p
        obtain ⟨uu, hu, zu⟩ := atI_ok z e
        exact ix_list value slice pins s σ H _ _ v u Q I rx ry ⟨a, vs, i, uu, rfl, rfl, .inl (.inl d), hu, Post.here q zu p⟩ hs
    | _ => exact p.elim
  | str x =>
    cases zb with
    | int i =>
      dsimp only [vIx] at p
      split at p
      · rename_i hz
        cases e : atI x.cps.toList i with
        | none => rw [e] at p; exact p.elim
        | some c =>
          rw [e] at p
          exact ix_str value slice pins s σ H _ _ v u Q I rx ry ⟨x, i, c, rfl, rfl, hz, e, Post.here q (.str _) p⟩ hs
      · exact p.elim
    | _ => exact p.elim
  | @ref n a e0 =>
    dsimp only [vIx] at p
    split at p
    · rename_i xs i hx
      cases zb with
      | int i =>
        cases e : atI xs i with
        | none => rw [e] at p; exact p.elim
        | some w =>
          rw [e] at p
          obtain ⟨vs, d, z⟩ := q.lst_at e0 hx
          obtain ⟨uu, hu, zu⟩ := atI_ok z e
          exact ix_list value slice pins s σ H _ _ v u Q I rx ry ⟨a, vs, i, uu, rfl, rfl, .inl (.inl d), hu, Post.here q zu p⟩ hs
    · split at p
      · rename_i w ew
        obtain ⟨uu, g, zu⟩ := (dGet_ok q e0 zb ew).1 w rfl
        obtain rfl : v = Value.ref a := rx
        refine PyProof.Rows.tail_any (dict_typeIs I g) PySem.F.slot_dict_getitem.lookup (d_getItem hu I g ry fun w' s' I' rw' => ⟨uu, H, I', rw', Post.here q zu p⟩) hs
      · exact p.elim
  | @scr a ns z =>
    cases zb with
    | int i =>
      dsimp only [vIx] at p
      cases e : atI ns i with
      | none => rw [e] at p; exact p.elim
      | some w =>
        rw [e] at p
        have e2 : atI (ns.map V.int) i = some (.int w) := by
          unfold L2.atI at e ⊢
          rw [List.length_map]
          cases hj : L2.ixN ns.length i with
          | none => rw [hj] at e; cases e
          | some j => rw [hj] at e; simp only [Option.bind_some] at e ⊢; rw [List.getElem?_map, e]; rfl
        exact ix_list value slice pins s σ H _ _ v u Q I rx ry ⟨a, _, i, _, rfl, rfl, hK ▸ z.sq, e2, Post.here q (.int _) p⟩ hs
    | _ => exact p.elim
  | _ => exact p.elim
variable {e f i : Expr} {me mf mi : EM} {pos p2 : Pos}
theorem me_ix {g : VOp} (o : IxM X G g) (he : ME X G W e me) (hi : ME X G W i mi) (hs : PlainIx i := by intro _ _; rfl) : ME X G W (.Subscript e i pos) (e2 g me mi) :=
  ⟨fun pins s σ H Q I ⟨r, h, l, q, hl, p⟩ => PyProof.Rows.Subscript_ (both he hi I q hl p fun v u s2 x y H2 r2 h2 va vb I2 ex q2 za zb rx ry p2 => o W e i pins s2 σ H2 r2 h2 va vb x y v u Q I2 q2 za zb rx ry p2 (hs _ _))⟩
abbrev OM := Loc → HM → Res (Option Int)
def oNone : OM := fun _ h => .ok none h
def oSome (m : EM) : OM := fun l h => (m l h).bind fun v h1 => match v with
  | .int i => .ok (some i) h1
  | _ => .bad
def tO (G : Glob) (W : WX) (m : OM) : TO := fun s H Q => ∃ r h l, Rel G r h H ∧ LR G r H l s ∧ Post G W r H s REq Q (m l h)
abbrev MO (X : Cx) (G : Glob) (W : WX) (e : Option Expr) (m : OM) : Prop := PO X e (tO G W m)
theorem mo_none : MO X G W none oNone := ⟨fun pins s σ H Q I ⟨r, h, l, q, hl, p⟩ => po_none.run pins s σ H Q I (Post.here (R := REq) q rfl p)⟩
theorem mo_some (he : ME X G W e me) : MO X G W (some e) (oSome me) := ⟨fun pins s σ H Q I ⟨r, h, l, q, hl, p⟩ => (po_some he).run pins s σ H Q I ⟨r, h, l, q, hl, (Post.bind p).imp fun x H1 ⟨r1, h1, w1, e1, q1, z1, p1⟩ => by
  cases z1 with
  | int i => exact ⟨i, rfl, Post.here (R := REq) q1 rfl p1⟩
  | _ => exact p1.elim⟩⟩
def cutL {α : Type} (xs : List α) (lo hi : Option Int) : List α := (xs.drop (HT.sIx xs.length 0 lo)).take (HT.sIx xs.length xs.length hi - HT.sIx xs.length 0 lo)
def vSl (a : Val) (lo hi : Option Int) (h : HM) : Res Val := match a with
  | .tup xs => .ok (.tup (cutL xs lo hi)) h
  | .ptup xs => .ok (if HT.sIx xs.length 0 lo = 0 ∧ HT.sIx xs.length xs.length hi = xs.length then .ptup xs else .tup (cutL xs lo hi)) h
  | .str x => if x.length ≤ sizeLine then .ok (.str (cutS x lo hi)) h else .bad
  | a => match seqL a h with
    | some xs => .ok (.lst (cutL xs lo hi)) h
    | none => .bad
def eSl (m : EM) (lo hi : OM) : EM := fun l h => (m l h).bind fun x h1 => (lo l h1).bind fun a h2 => (hi l h2).bind fun b h3 => vSl x a b h3
theorem cut_ok (z : VRs G r H xs vs) (lo hi : Option Int) : VRs G r H (cutL xs lo hi) (cutV vs lo hi) := by
  unfold cutL L2.cutV
  rw [z.length]
  exact (z.drop _).take _
theorem cut_whole {xs : List Val} {lo hi : Option Int} (hw : HT.sIx xs.length 0 lo = 0 ∧ HT.sIx xs.length xs.length hi = xs.length) : cutL xs lo hi = xs := by
  unfold cutL
  rw [hw.1, hw.2]
  simp
theorem mslice {o : Option Expr} {o' : Option Expr} {lo hi : OM} (he : ME X G W e me) (hlo : MO X G W o lo) (hhi : MO X G W o' hi) : ME X G W (.Subscript e (.Slice o o' none p2) pos) (eSl me lo hi) := by
  refine ⟨fun pins s σ H Q I ⟨r, h, l, q, hl, p⟩ => ?_⟩
  refine (pe_slice (r := fun x a b H Q => ∃ r h v, Rel G r h H ∧ VR G r H v x ∧ Post G W r H σ (VR G) Q (vSl v a b h)) (fun pins s σ' H x v vl vu lo hi sl Q I rx hs pl pu ⟨r, h, w, q, z, p⟩ => ?_) he hlo hhi).run pins s σ H Q I ⟨r, h, l, q, hl, (Post.bind p).imp fun x H1 ⟨r1, h1, w1, e1, q1, z1, p1⟩ => ⟨r1, h1, l, q1, hl.ext e1, (Post.bind p1).imp fun a H2 ⟨r2, h2, w2, e2, q2, z2, p2⟩ => ⟨r2, h2, l, q2, (hl.ext e1).ext e2, (Post.bind p2).imp fun b H3 ⟨r3, h3, w3, e3, q3, z3, p3⟩ => ?_⟩⟩⟩
  · have gen : ∀ xs, seqL w h = some xs → (seqL w h = some xs → Post G W r H σ (VR G) Q (.ok (.lst (cutL xs lo hi)) h)) → ∃ T id, typeLookup (.type T) "__getitem__" = pure (some (.builtin id)) ∧ s.TypeIs v T ∧ wpAny (model X.prog X.w) X.A (getItem v (.ref sl)) (EP X pins σ' Q) X.xe s := by
      intro xs e p
      obtain ⟨a, vs, rfl, d, zz⟩ := seqL_ok q z e
      exact sl_list pins s σ' H _ v vl vu lo hi sl Q I rx hs pl pu ⟨a, vs, rfl, .inl (.inl d), fun a' n => p e r _ _ (ext_new q n) (q.laid n) (.lst upd_same (q.new n) ((cut_ok zz lo hi).ext (ext_new q n)))⟩
    cases z with
    | @tup a vs xs d o z =>
      refine sl_tupA pins s σ' H _ v vl vu lo hi sl Q I rx hs pl pu ⟨a, vs, rfl, .inl (.inl d), fun hw => ?_, fun hw a' n => ?_⟩
      · have p : Post G W r H σ (VR G) Q (.ok (.tup (cutL xs lo hi)) h) := p
        rw [cut_whole (by rw [z.length]; exact hw)] at p
        exact Post.here q (.tup d o z) p
      · exact p r _ _ (ext_new q n) (q.laid n) (.tup upd_same (q.new n) ((cut_ok z lo hi).ext (ext_new q n)))
    | @ptup a ob vs xs d dn o z =>
      have p : Post G W r H σ (VR G) Q (.ok (if HT.sIx xs.length 0 lo = 0 ∧ HT.sIx xs.length xs.length hi = xs.length then .ptup xs else .tup (cutL xs lo hi)) h) := p
      refine sl_tupA pins s σ' H _ v vl vu lo hi sl Q I rx hs pl pu ⟨a, vs, rfl, .inl (.inr ⟨_, d⟩), fun hw => ?_, fun hw a' n => ?_⟩
      · rw [if_pos (by rw [z.length]; exact hw)] at p
        exact Post.here q (.ptup d dn o z) p
      · rw [if_neg (by rw [z.length]; exact hw)] at p
        exact p r _ _ (ext_new q n) (q.laid n) (.tup upd_same (q.new n) ((cut_ok z lo hi).ext (ext_new q n)))
    | str x =>
      dsimp only [vSl] at p
      split at p
      · rename_i hz
        exact sl_str pins s σ' H _ v vl vu lo hi sl Q I rx hs pl pu ⟨x, rfl, hz, Post.here q (.str _) p⟩
      · exact p.elim
    | @lst a vs xs d o z => exact gen xs rfl fun _ => p
    | @ref n a e0 =>
      cases e : seqL (.ref n) h with
      | none =>
        have p : Post G W r H σ (VR G) Q (match seqL (.ref n) h with | some xs => .ok (.lst (cutL xs lo hi)) h | none => .bad) := p
        rw [e] at p; exact p.elim
      | some xs =>
        have p : Post G W r H σ (VR G) Q (match seqL (.ref n) h with | some xs => .ok (.lst (cutL xs lo hi)) h | none => .bad) := p
        rw [e] at p
        exact gen xs e fun _ => p
    | _ => exact p.elim
  · cases z2
    cases z3
    exact ⟨r3, h3, w1, q3, (z1.ext e2).ext e3, p3⟩
def eChM (g g' : VOp) (a b c : EM) : EM := fun l h => (a l h).bind fun x h1 => (b l h1).bind fun y h2 => (g x y h2).bind fun z h3 => (toB z h3).bind fun k h4 => if k = true then (c l h4).bind fun w h5 => g' y w h5 else .ok (.bl false) h4
variable {c : Expr} {mc : EM}
theorem me_chain {op op' : CmpOp} {g g' : VOp} (ho : OpM X G (compareOp op) g) (ho' : OpM X G (compareOp op') g') (ha : ME X G W e me) (hb : ME X G W f mf) (hc : ME X G W c mc)
    (hm : lastMarks [op, op'] [f, c] = false := by with_unfolding_all rfl) : ME X G W (.Compare e [op, op'] [f, c] pos) (eChM g g' me mf mc) := by
  refine ⟨fun pins s σ H Q I ⟨r, h, l, q, hl, p⟩ => ?_⟩
  refine PyProof.Rows.Compare_chain (thn (ha.run pins s σ H _ I ⟨r, h, l, q, hl, Post.bind p⟩) fun v s1 ⟨x, H1, I1, rx, ⟨r1, h1, va, e1, q1, z1, p1⟩⟩ => PyProof.Rows.chain_link (thn (hb.run pins s1 σ H1 _ I1 ⟨r1, h1, l, q1, hl.ext e1, Post.bind p1⟩) fun u s2 ⟨y, H2, I2, ry, ⟨r2, h2, vb, e2, q2, z2, p2⟩⟩ =>
    thn (ho W pins s2 σ H2 r2 h2 va vb x y v u _ I2 q2 (z1.ext e2) z2 rx ry (Post.bind p2)) fun d s3 ⟨z, H3, I3, rz, ⟨r3, h3, vz, e3, q3, z3, p3⟩⟩ => ?_)) hm
  cases z3 with
  | bl k =>
    cases rz
    refine wpAny_truthy_bool ?_
    simp only [toB, Res.bind_ok] at p3
    cases k with
    | false => exact PyProof.Rows.ite_ff ⟨.bl false, H3, I3, rfl, Post.here q3 (.bl _) p3⟩
    | true => exact PyProof.Rows.ite_tt (PyProof.Rows.chain_last (thn (hc.run pins s3 σ H3 _ I3 ⟨r3, h3, l, q3, ((hl.ext e1).ext e2).ext e3, Post.bind p3⟩) fun w' s4 ⟨z', H4, I4, r4, ⟨r4', h4, vw, e4, q4, z4, p4⟩⟩ =>
        ho' W pins s4 σ H4 r4' h4 vb vw y z' u w' Q I4 q4 ((z2.ext e3).ext e4) z4 ry r4 p4))
  | _ => exact p3.elim
/-- a built-in called with values -/
abbrev BOp := List Val → HM → Res Val
def CallM (X : Cx) (G : Glob) (f : Value) (g : BOp) : Prop :=
  ∀ (W : WX) (σ : St), CallR X f fun vs H Q => ∃ r h xs, Rel G r h H ∧ VRs G r H xs vs ∧ Post G W r H σ (VR G) Q (g xs h)
def eBi (g : BOp) (m : AM) : EM := fun l h => (m l h).bind g
variable {id T : String} {g : BOp} {x : Str} {p : Pos} {es : List Expr} {ma : AM}
theorem me_bi (hc : CallM X G (.builtin id) g) (hg : Gl X x) (hm : X.mg x = none) (hv : bootBuiltins x = some (.builtin id)) (ha : MA X G W (e :: es) ma) (hn : x ≠ "__name__" := by decide) (hdb : (x == ("__debug__" : Str)) = false := by decide)
    (he : starEach (e :: es) X.env = (false, eval e X.env) :: starEach es X.env := by rfl) (hpl : (backTo pos (starEach es X.env)).any (·.1) = false := by rfl) : ME X G W (.Call (.Name x p) (e :: es) [] pos) (eBi g ma) := by
  refine ⟨fun pins s σ H Q I ⟨r, h, l, q, hl, pp⟩ => (pe_callB (hc W σ) hg hm hv ha hn hdb he hpl).run pins s σ H Q I ⟨r, h, l, q, hl, (Post.bind pp).imp fun vs H1 ⟨r1, h1, w1, e1, q1, z1, p1⟩ => ⟨r1, h1, w1, q1, z1, p1⟩⟩⟩
theorem me_biT (hc : CallM X G (.type T) g) (hg : Gl X x) (hm : X.mg x = none) (hv : bootBuiltins x = some (.type T)) (ha : MA X G W (e :: es) ma) (hn : x ≠ "__name__" := by decide) (hdb : (x == ("__debug__" : Str)) = false := by decide)
    (he : starEach (e :: es) X.env = (false, eval e X.env) :: starEach es X.env := by rfl) (hpl : (backTo pos (starEach es X.env)).any (·.1) = false := by rfl) : ME X G W (.Call (.Name x p) (e :: es) [] pos) (eBi g ma) := by
  refine ⟨fun pins s σ H Q I ⟨r, h, l, q, hl, pp⟩ => (pe_callTy (hc W σ) hg hm hv ha hn hdb he hpl).run pins s σ H Q I ⟨r, h, l, q, hl, (Post.bind pp).imp fun vs H1 ⟨r1, h1, w1, e1, q1, z1, p1⟩ => ⟨r1, h1, w1, q1, z1, p1⟩⟩⟩
theorem CallM.of {v : Value} {g : BOp} {R : List V → Hp → VK → Prop} (cr : CallR X v R) (i : ∀ W σ r h H xs vs Q, Rel G r h H → VRs G r H xs vs → Post G W r H σ (VR G) Q (g xs h) → R vs H Q) : CallM X G v g :=
  fun W σ0 pins s σ H vs us Q I rv ⟨r, h, xs, q, z, p⟩ => cr pins s σ H vs us Q I rv (i W σ0 r h H xs vs Q q z p)
/-- the name of a built-in type -/
theorem me_ty {T : String} (hg : Gl X x) (hm : X.mg x = none) (hv : bootBuiltins x = some (.type T)) (hn : x ≠ "__name__" := by decide) (hdb : (x == ("__debug__" : Str)) = false := by decide) : ME X G W (.Name x pos) (eC (.ty T)) :=
  me_of (pe_bltn (v := .ty T) hg hm hv rfl hn hdb) fun r h l s H Q q hl p => Post.here q (.ty _) p
def lenN (v : Val) (h : HM) : Option Nat := match v with
  | .str x => if x.length ≤ sizeLine then some x.length else none
  | .tup xs => some xs.length
  | .ptup xs => some xs.length
  | .lst xs => some xs.length
  | .scr ns => some ns.length
  | .ref n => (match h[n]? with
    | some (.lst xs) => some xs.length
    | some (.dK kvs) => some kvs.length
    | some (.dT kvs) => some kvs.length
    | _ => none)
  | _ => none
def bLen : BOp := fun xs h => match xs with
  | [v] => (match lenN v h with
    | some n => .ok (.int n) h
    | none => .bad)
  | _ => .bad
theorem CallR.or {f : Value} {R R' : List V → Hp → VK → Prop} (a : CallR X f R) (b : CallR X f R') : CallR X f fun vs H Q => R vs H Q ∨ R' vs H Q := by
  intro pins s σ H xs us Q I r h
  rcases h with h | h
  · exact a pins s σ H xs us Q I r h
  · exact b pins s σ H xs us Q I r h
theorem cm_len (hK : G.K = X.K := by rfl) : CallM X G (.builtin "len") bLen := .of (CallR.or call_len (CallR.or call_lenD call_len_dT)) fun W σ r h H xs vs Q q z p => by
  unfold bLen at p
  split at p
  · rename_i v
    split at p
    · rename_i n e
      cases z with
      | cons z1 z2 =>
        cases z2
        cases z1 with
        | str x =>
          simp only [lenN] at e
          split at e
          · rename_i hz; cases e; exact .inl ⟨_, _, rfl, ⟨hz, rfl⟩, Post.here q (.int _) p⟩
          · cases e
        | tup d o zz => cases e; exact .inl ⟨_, _, rfl, .inr ⟨_, .inl (.inl d), rfl⟩, by rw [← zz.length]; exact Post.here q (.int _) p⟩
        | ptup d dn o zz => cases e; exact .inl ⟨_, _, rfl, .inr ⟨_, .inl (.inr ⟨_, d⟩), rfl⟩, by rw [← zz.length]; exact Post.here q (.int _) p⟩
        | lst d o zz => cases e; exact .inl ⟨_, _, rfl, .inl ⟨_, .inl (.inl d), rfl⟩, by rw [← zz.length]; exact Post.here q (.int _) p⟩
        | @scr a ns zz => cases e; exact .inl ⟨_, _, rfl, .inl ⟨_, hK ▸ zz.sq, by simp⟩, Post.here q (.int _) p⟩
        | ref e0 =>
          obtain ⟨o, ho, ob⟩ := q.at_ e0
          simp only [lenN, ho] at e
          cases ob with
          | lst h1 h2 => cases e; exact .inl ⟨_, _, rfl, .inl ⟨_, .inl (.inl h1), rfl⟩, by rw [← h2.length]; exact Post.here q (.int _) p⟩
          | dK h1 h2 => cases e; exact .inr (.inl ⟨_, _, rfl, h1, by rw [← Paired.length h2]; exact Post.here q (.int _) p⟩)
          | dT h1 h2 => cases e; exact .inr (.inr ⟨_, _, rfl, h1, by rw [← Paired.length h2]; exact Post.here q (.int _) p⟩)
          | _ => cases e
        | _ => cases e
    · exact p.elim
  · exact p.elim
def boolsOf : List Val → Option (List Bool)
  | [] => some []
  | x :: xs => match x, boolsOf xs with
    | .bl b, some bs => some (b :: bs)
    | _, _ => none
theorem bools_ok {bs : List Bool} (z : VRs G r H xs vs) (e : boolsOf xs = some bs) : vs = bs.map V.bl := by
  induction xs generalizing vs bs with
  | nil => cases z; cases e; rfl
  | cons x xs ih =>
    cases z with
    | cons a b =>
      simp only [boolsOf] at e
      split at e
      · rename_i b1 bs' e2
        cases e
        cases a
        rw [ih b e2]
        rfl
      · cases e
def bAll : BOp := fun xs h => match xs with
  | [v] => (match (seqL v h).bind boolsOf with
    | some bs => .ok (.bl (bs.all _root_.id)) h
    | none => .bad)
  | _ => .bad
def bAny : BOp := fun xs h => match xs with
  | [v] => (match (seqL v h).bind boolsOf with
    | some bs => .ok (.bl (bs.any _root_.id)) h
    | none => .bad)
  | _ => .bad
theorem bools_seq {v : Val} {x : V} {bs : List Bool} (q : Rel G r h H) (z : VR G r H v x) (e : (seqL v h).bind boolsOf = some bs) : ∃ a, x = .ref a ∧ SqL K H a (bs.map V.bl) := by
  cases es : seqL v h with
  | none => rw [es] at e; cases e
  | some ys =>
    rw [es] at e
    obtain ⟨a, vs, rfl, d, zz⟩ := seqL_ok q z es
    have := bools_ok zz e
    subst this
    exact ⟨a, rfl, .inl (.inl d)⟩
theorem cm_all (hc : X.calm = true) : CallM X G (.builtin "all") bAll := .of (cr_all hc) fun W σ r h H xs vs Q q z p => by
  unfold bAll at p
  split at p
  · split at p
    · rename_i bs e
      cases z with
      | cons z1 z2 =>
        cases z2
        obtain ⟨a, rfl, d⟩ := bools_seq (K := X.K) q z1 e
        exact ⟨a, bs, rfl, d, Post.here q (.bl _) p⟩
    · exact p.elim
  · exact p.elim
theorem cm_any (hc : X.calm = true) : CallM X G (.builtin "any") bAny := .of (cr_any hc) fun W σ r h H xs vs Q q z p => by
  unfold bAny at p
  split at p
  · split at p
    · rename_i bs e
      cases z with
      | cons z1 z2 =>
        cases z2
        obtain ⟨a, rfl, d⟩ := bools_seq (K := X.K) q z1 e
        exact ⟨a, bs, rfl, d, Post.here q (.bl _) p⟩
    · exact p.elim
  · exact p.elim
def tyN (v : Val) (h : HM) : Option String := match v with
  | .non => some "NoneType"
  | .bl _ => some "bool"
  | .int _ => some "int"
  | .str _ => some "str"
  | .tup _ => some "tuple"
  | .ptup _ => some "tuple"
  | .lst _ => some "list"
  | .ref n => (match h[n]? with
    | some (.lst _) => some "list"
    | some (.dK _) => some "dict"
    | some (.dT _) => some "dict"
    | _ => none)
  | _ => none
def bIsi : BOp := fun xs h => match xs with
  | [v, .ty u] => (match tyN v h with
    | some t => (match kitB t u with
      | some b => .ok (.bl b) h
      | none => .bad)
    | none => .bad)
  | [v, .tup [.ty u, .ty w]] => (match tyN v h with
    | some t => (match kitB t u, kitB t w with
      | some b, some b' => .ok (.bl (b || b')) h
      | _, _ => .bad)
    | none => .bad)
  | _ => .bad
theorem tyN_ok {v : Val} {x : V} {t : String} (q : Rel G r h H) (z : VR G r H v x) (e : tyN v h = some t) : TyX K H x (.type t) := by
  cases z with
  | ref e0 =>
    obtain ⟨o, ho, ob⟩ := q.at_ e0
    simp only [tyN, ho] at e
    cases ob with
    | lst h1 h2 => cases e; exact .base (.lst h1)
    | dK h1 h2 => cases e; exact .base (.dK h1)
    | dT h1 h2 => cases e; exact .base (.dT h1)
    | _ => cases e
  | non => cases e; exact .base .non
  | bl b => cases e; exact .base (.bl b)
  | int b => cases e; exact .base (.int b)
  | str b => cases e; exact .base (.str b)
  | tup d b c => cases e; exact .base (.tup d)
  | lst d b c => cases e; exact .base (.lst d)
  | ptup d b c f => cases e; exact .fTuple d
  | fn b => cases e
  | ty b => cases e
  | scr b => cases e
theorem cm_isi : CallM X G (.builtin "isinstance") bIsi := .of (CallR.or call_isi call_isiT) fun W σ r h H xs vs Q q z p => by
  unfold bIsi at p
  split at p
  · rename_i v u
    split at p
    · rename_i t et
      split at p
      · rename_i b eb
        cases z with
        | cons z1 z2 => cases z2 with | cons z2 z3 => cases z3; cases z2; exact .inl ⟨_, _, .type t, .type u, b, rfl, .ty u, tyN_ok q z1 et, kit_ty eb, Post.here q (.bl _) p⟩
      · exact p.elim
    · exact p.elim
  · rename_i v u w
    split at p
    · rename_i t et
      split at p
      · rename_i b b' eb eb'
        cases z with
        | cons z1 z2 => cases z2 with
          | cons z2 z3 =>
            cases z3
            cases z2 with
            | tup d o zz =>
              cases zz with
              | cons y1 y2 => cases y2 with
                | cons y2 y3 =>
                  cases y3
                  cases y1
                  cases y2
                  refine .inr ⟨_, _, _, .type t, [.type u, .type w], b || b', rfl, d, .cons (.ty u) (.cons (.ty w) .nil), tyN_ok q z1 et, ?_, Post.here q (.bl _) p⟩
                  refine kitAny_cons (kit_ty eb) (fun hb => ?_) fun hb => by rw [hb]; rfl
                  rw [hb]
                  exact kitAny_cons (kit_ty eb') (fun hb' => by rw [hb']; exact kitAny_nil) fun hb' => by rw [hb']; rfl
      · exact p.elim
    · exact p.elim
  · exact p.elim
end
end MM
namespace MM
open PySem L2
section
variable {X : Cx} {G : Glob} {W : WX} {r r1 r2 : Ad} {H H1 H2 : Hp} {h h1 : HM} {l : Loc} {s : St} {K : PySem.W.Frag} {a : Addr} {xs : List Val} {vs : List V} {n k : Nat}
inductive Kd where | str | list
  deriving DecidableEq
def Kd.name : Kd → String
  | .str => "str"
  | .list => "list"
def isKd (T : Kd) (v : Val) (h : HM) : Bool := match T, v with
  | .str, .str _ => true
  | .list, v => (seqL v h).isSome
  | _, _ => false
theorem isKd_ok {T : Kd} {v : Val} {x : V} (q : Rel G r h H) (z : VR G r H v x) (e : isKd T v h = true) : tyV K T.name x H := by
  cases T with
  | str => cases z with
    | str x => rfl
    | _ => cases e
  | list =>
    have e : (seqL v h).isSome = true := by cases v <;> exact e
    obtain ⟨xs, ex⟩ := Option.isSome_iff_exists.mp e
    obtain ⟨a, vs, rfl, d, zz⟩ := seqL_ok q z ex
    exact .inl ⟨rfl, vs, .inl (.inl d)⟩
abbrev MOp := Val → List Val → HM → Res Val
def MtdM (X : Cx) (G : Glob) (id : String) (g : MOp) : Prop :=
  ∀ (W : WX) (σ : St), MtR X id fun x vs H Q => ∃ r h o xs, Rel G r h H ∧ VR G r H o x ∧ VRs G r H xs vs ∧ Post G W r H σ (VR G) Q (g o xs h)
theorem MtdM.of {id : String} {g : MOp} {R : V → List V → Hp → VK → Prop} (m : MtR X id R) (i : ∀ W σ r h H o x xs vs Q, Rel G r h H → VR G r H o x → VRs G r H xs vs → Post G W r H σ (VR G) Q (g o xs h) → R x vs H Q) : MtdM X G id g :=
  fun W σ0 pins s σ H x vs v us Q I rx rv ⟨r, h, o, xs, q, zo, z, p⟩ => m pins s σ H x vs v us Q I rx rv (i W σ0 r h H o x xs vs Q q zo z p)
def eBm (T : Kd) (g : MOp) (mo : EM) (ma : AM) : EM := fun l h => (mo l h).bind fun o h1 => if isKd T o h1 = true then (ma l h1).bind fun xs h2 => g o xs h2 else .bad
variable {o e : Expr} {es : List Expr} {mo : EM} {ma : AM} {name : Str} {apos cpos : Pos} {id : String} {g : MOp}
theorem me_bm {T : Kd} (hm : MtdM X G id g) (pa : PlainAttrs T.name) (slot : Slot T.name name id) (hty : typeOf (.builtin id) = pure (.type "method_descriptor")) (ho : ME X G W o mo) (ha : MA X G W (e :: es) ma)
    (hbase : attributeBase o name X.env (eval o X.env) = eval o X.env := by rfl)
    (hfew : ((backTo cpos (starEach (e :: es) X.env)).all (fun x => !x.1) && (backToKw cpos (keywordEach [] X.env)).all (fun x => x.1.isSome)
      && decide ((e :: es).length + ([] : List Keyword).length + (if ([] : List Keyword).isEmpty then 0 else 1) < 30)) = true := by rfl)
    (hline : (apos.endLine == cpos.line) = true := by rfl) (hs : starEach (e :: es) X.env = (false, eval e X.env) :: starEach es X.env := by rfl) (hplain : (backTo cpos (starEach es X.env)).any (·.1) = false := by rfl) :
    ME X G W (.Call (.Attribute o name apos) (e :: es) [] cpos) (eBm T g mo ma) := by
  refine ⟨fun pins s σ H Q I ⟨r, h, l, q, hl, pp⟩ => (pe_bm pa slot hty (hm W σ) ho ha hbase hfew hline hs hplain).run pins s σ H Q I ⟨r, h, l, q, hl, (Post.bind pp).imp fun x H1 ⟨r1, h1, w1, e1, q1, z1, p1⟩ => ?_⟩⟩
  dsimp only at p1
  split at p1
  · rename_i hk
    exact ⟨isKd_ok q1 z1 hk, r1, h1, l, q1, hl.ext e1, (Post.bind p1).imp fun vs H2 ⟨r2, h2, w2, e2, q2, z2, p2⟩ => ⟨r2, h2, w1, w2, q2, z1.ext e2, z2, p2⟩⟩
  · exact p1.elim
def strsOf : List Val → Option (List Str)
  | [] => some []
  | x :: xs => match x, strsOf xs with
    | .str b, some bs => some (b :: bs)
    | _, _ => none
theorem strs_ok {bs : List Str} (z : VRs G r H xs vs) (e : strsOf xs = some bs) : vs = bs.map V.str := by
  induction xs generalizing vs bs with
  | nil => cases z; cases e; rfl
  | cons x xs ih =>
    cases z with
    | cons a b =>
      simp only [strsOf] at e
      split at e
      · rename_i b1 bs' e2
        cases e
        cases a
        rw [ih b e2]
        rfl
      · cases e
def mJoin : MOp := fun o xs h => match o, xs with
  | .str a, [v] => (match (seqL v h).bind strsOf with
    | some ys => if (ys.map (·.length)).sum + ys.length * a.length ≤ 16777216 then .ok (.str (Txt.join a ys)) h else .bad
    | none => .bad)
  | _, _ => .bad
theorem mm_join : MtdM X G "str.join" mJoin := .of mt_join fun W σ r h H o x xs vs Q q zo z p => by
  unfold mJoin at p
  split at p
  · rename_i a v
    split at p
    · rename_i ys e
      split at p
      · rename_i hz
        cases zo
        cases z with
        | cons z1 z2 =>
          cases z2
          cases es : seqL v h with
          | none => rw [es] at e; cases e
          | some zs =>
            rw [es] at e
            obtain ⟨b, us, rfl, d, zz⟩ := seqL_ok q z1 es
            have := strs_ok zz e
            subst this
            exact ⟨a, b, ys, rfl, rfl, .inl (.inl (.inl d)), hz, Post.here q (.str _) p⟩
      · exact p.elim
    · exact p.elim
  · exact p.elim
def mFind : MOp := fun o xs h => match o, xs with
  | .str a, [.str b] => .ok (.int (Txt.find a b)) h
  | .str a, [.str b, .int i] => .ok (.int (Txt.find3 a b i)) h
  | _, _ => .bad
theorem mm_find : MtdM X G "str.find" mFind := .of (mt_find.or mt_find3) fun W σ r h H o x xs vs Q q zo z p => by
  unfold mFind at p
  split at p
  · cases zo
    cases z with
    | cons z1 z2 => cases z2; cases z1; exact .inl ⟨_, _, rfl, rfl, Post.here q (.int _) p⟩
  · cases zo
    cases z with
    | cons z1 z2 => cases z2 with | cons z2 z3 => cases z3; cases z1; cases z2; exact .inr ⟨_, _, _, rfl, rfl, Post.here q (.int _) p⟩
  · exact p.elim
def mSplit : MOp := fun o xs h => match o, xs with
  | .str a, [.str b] => if (b.length == 0) = false ∧ a.length + 2 ≤ sizeLine then .ok (.lst ((Txt.split a b).map .str)) h else .bad
  | _, _ => .bad
theorem vrs_strs {ys : List Str} : VRs G r H (ys.map .str) (ys.map V.str) := by
  induction ys with
  | nil => exact .nil
  | cons y ys ih => exact .cons (.str y) ih
theorem mm_split : MtdM X G "str.split" mSplit := .of mt_split fun W σ r h H o x xs vs Q q zo z p => by
  unfold mSplit at p
  split at p
  · split at p
    · rename_i hz
      cases zo
      cases z with
      | cons z1 z2 => cases z2; cases z1; exact ⟨_, _, rfl, rfl, hz.1, hz.2, fun a n => p r _ _ (ext_new q n) (q.laid n) (.lst upd_same (q.new n) vrs_strs)⟩
    · exact p.elim
  · exact p.elim
def mAppend : MOp := fun o xs h => match o, xs with
  | .ref n, [y] => (match h[n]? with
    | some (.lst ys) => if ys.length < sizeLine then .ok .non (h.set n (.lst (ys ++ [y]))) else .bad
    | _ => .bad)
  | _, _ => .bad
theorem mm_append : MtdM X G "list.append" mAppend := .of (show MtR X "list.append" rAppend from mt_append) fun W σ r h H o x xs vs Q q zo z p => by
  unfold mAppend at p
  split at p
  · rename_i n y
    split at p
    · rename_i ys hn
      split at p
      · rename_i hz
        cases zo with
        | @ref n a e0 =>
          cases z with
          | cons z1 z2 =>
            cases z2
            obtain ⟨us, d, zz⟩ := q.lst_at e0 hn
            have nf : ∀ o u, H a ≠ some (.frz o u) := fun o u z => by rw [d] at z; cases z
            refine ⟨a, us, _, rfl, rfl, d, by rw [← zz.length]; exact hz, p r _ _ (ext_write q e0 nf) (q.write e0 nf (.lst upd_same ((zz.append (.cons z1 .nil)).ext (ext_write q e0 nf)))) .non⟩
      · exact p.elim
    · exact p.elim
  · exact p.elim
variable {f : Expr} {me mf : EM}
def isDict (n : Nat) (h : HM) : Bool := match h[n]? with
  | some (.dK _) => true
  | some (.dT _) => true
  | some (.lK _) => true
  | some (.lT _) => true
  | _ => false
def eGet2 (mo me mf : EM) : EM := fun l h => (mo l h).bind fun o h1 => match o with
  | .ref n => if isDict n h1 = true then (me l h1).bind fun y h2 => (mf l h2).bind fun z h3 => match dGet n y h3 with
    | some (some v) => .ok v h3
    | some none => .ok z h3
    | none => .bad else .bad
  | _ => .bad
def putV {κ : Type} [DecidableEq κ] (kvs : List (κ × Val)) (k : κ) (v : Val) : List (κ × Val) :=
  if (kvs.any fun kv => decide (kv.1 = k)) = true then kvs.map (fun kv => if kv.1 = k then (kv.1, v) else kv) else kvs ++ [(k, v)]
theorem KR.anyk {κ : Type} [DecidableEq κ] {kvs : List (κ × Val)} {kv : List (κ × V)} (q : KR G r H kvs kv) (k : κ) : (kv.any fun p => decide (p.1 = k)) = kvs.any fun p => decide (p.1 = k) := by
  induction q with
  | nil => rfl
  | cons a b ih => rw [List.any_cons, List.any_cons, ih, a.1]
theorem KR.append {κ : Type} {x x' : List (κ × Val)} {y y' : List (κ × V)} (a : KR G r H x y) (b : KR G r H x' y') : KR G r H (x ++ x') (y ++ y') := by
  induction a with
  | nil => exact b
  | cons p q ih => exact .cons p ih
theorem KR.mapk {κ : Type} [DecidableEq κ] (k : κ) {y : Val} {u : V} (z : VR G r H y u) : ∀ {kvs : List (κ × Val)} {kv : List (κ × V)}, KR G r H kvs kv → KR G r H (kvs.map fun kv => if kv.1 = k then (kv.1, y) else kv) (kv.map fun kv => if kv.1 = k then (kv.1, u) else kv)
  | _, _, .nil => .nil
  | p :: _, p' :: _, .cons a b => by
    rw [List.map_cons, List.map_cons]
    refine .cons ?_ (KR.mapk k z b)
    by_cases e : p.1 = k
    · rw [if_pos e, if_pos (a.1 ▸ e)]; exact ⟨a.1, z⟩
    · rw [if_neg e, if_neg (a.1 ▸ e)]; exact a
theorem KR.put {κ : Type} [DecidableEq κ] {kvs : List (κ × Val)} {kv : List (κ × V)} (q : KR G r H kvs kv) (k : κ) {y : Val} {u : V} (z : VR G r H y u) : KR G r H (putV kvs k y) (putK kv k u) := by
  unfold putV L2.putK
  rw [q.anyk k]
  split
  · exact q.mapk k z
  · exact KR.append q (.cons ⟨rfl, z⟩ .nil)
/-- o[i] = v -/
def setI (o i v : Val) (h : HM) : Option HM := match o with
  | .ref n => (match h[n]? with
    | some (.lst xs) => (match i with
      | .int k => (ixN xs.length k).map fun j => h.set n (.lst (xs.set j v))
      | _ => none)
    | some (.dK kvs) => if kvs.length < sizeLine then (keyOf i).map fun k => h.set n (.dK (putV kvs k v)) else none
    | some (.dT kvs) => if kvs.length < sizeLine then (tkey i).map fun k => h.set n (.dT (putV kvs k v)) else none
    | _ => none)
  | _ => none
def sSub (mo mi mv : EM) : SM := fun l h => (mv l h).thn l fun y h1 => (mo l h1).thn l fun o h2 => (mi l h2).thn l fun i h3 => match setI o i y h3 with
  | some h4 => .nx l h4
  | none => .bad
theorem ms_sub {i v : Expr} {mi mv : EM} {pos pos' : Pos} (hu : X.A.units + 1 < cLine) (ho : ME X G W o mo) (hi : ME X G W i mi) (hv : ME X G W v mv) (hs : swapsWith v (some (.Subscript o i pos')) pos.line X.env = pure false := by rfl) :
    MS X G W (.Assign [.Subscript o i pos'] v pos) (sSub mo mi mv) := by
  refine ⟨fun pins s σ H D I ⟨r, h, l, q, hl, p⟩ => ?_⟩
  refine PySem.wpAny_Assign_Subscript (thn (hv.run pins s σ H _ I ⟨r, h, l, q, hl, Post.thn hl p⟩) fun u1 s1 ⟨y, H1, I1, ry, ⟨r1, h1, v1, e1, q1, z1, p1⟩⟩ => thn (ho.run pins s1 σ H1 _ I1 ⟨r1, h1, l, q1, hl.ext e1, Post.thn (hl.ext e1) p1⟩) fun u2 s2 ⟨x, H2, I2, rx, ⟨r2, h2, v2, e2, q2, z2, p2⟩⟩ =>
    thn (hi.run pins s2 σ H2 _ I2 ⟨r2, h2, l, q2, (hl.ext e1).ext e2, Post.thn ((hl.ext e1).ext e2) p2⟩) fun u3 s3 ⟨w, H3, I3, rw', ⟨r3, h3, v3, e3, q3, z3, p3⟩⟩ => ?_) hs
  have zy := (z1.ext e2).ext e3
  have zo := z2.ext e3
  have hl3 := ((hl.ext e1).ext e2).ext e3
  dsimp only at p3
  cases zo with
  | @ref n a e0 =>
    cases hset : setI (.ref n) v3 v1 h3 with
    | none => rw [hset] at p3; exact p3.elim
    | some h4 =>
      rw [hset] at p3
      unfold setI at hset
      dsimp only at hset
      obtain rfl : u2 = Value.ref a := rx
      cases hn : h3[n]? with
      | none => rw [hn] at hset; cases hset
      | some ob =>
        rw [hn] at hset
        have hob := q3.ob n a ob e0 hn
        cases hob with
        | @lst xs vs g1 g2 =>
          have nf : ∀ o u, H3 a ≠ some (.frz o u) := fun o u z => by rw [g1] at z; cases z
          dsimp only at hset
          cases z3 with
          | int k =>
            simp only [Option.map_eq_some_iff] at hset
            obtain ⟨j, hj, rfl⟩ := hset
            refine thn (set_list pins s3 σ H3 (.ref a) (.int k) y _ u3 u1 (D.nx σ) I3 rfl rw' ry ⟨a, vs, k, j, rfl, rfl, g1, by rw [← g2.length]; exact hj, ?_⟩) fun _ s4 ⟨H4, I4, q4⟩ => ⟨σ, H4, I4, q4⟩
            exact p3 r3 _ σ (ext_write q3 e0 nf) (q3.write e0 nf (.lst upd_same ((g2.set j zy).ext (ext_write q3 e0 nf)))) (hl3.ext (ext_write q3 e0 nf))
          | _ => cases hset
        | @dK kvs kv g1 g2 =>
          have nf : ∀ o u, H3 a ≠ some (.frz o u) := fun o u z => by rw [g1] at z; cases z
          dsimp only at hset
          split at hset
          · rename_i hz
            simp only [Option.map_eq_some_iff] at hset
            obtain ⟨kk, hk, rfl⟩ := hset
            have := key_V z3 hk
            subst this
            refine d_setItem hu I3 (.k g1 (by rw [← Paired.length g2]; exact hz)) rw' ry fun s4 I4 => ⟨σ, _, I4, ?_⟩
            exact p3 r3 _ σ (ext_write q3 e0 nf) (q3.write e0 nf (.dK upd_same ((g2.put kk zy).ext (ext_write q3 e0 nf)))) (hl3.ext (ext_write q3 e0 nf))
          · cases hset
        | @dT kvs kv g1 g2 =>
          have nf : ∀ o u, H3 a ≠ some (.frz o u) := fun o u z => by rw [g1] at z; cases z
          dsimp only at hset
          split at hset
          · rename_i hz
            simp only [Option.map_eq_some_iff] at hset
            obtain ⟨kk, hk, rfl⟩ := hset
            cases z3 with
            | tup d oo zz =>
              have := keys_V zz hk
              subst this
              refine d_setItem hu I3 (.t g1 d (by rw [← Paired.length g2]; exact hz)) rw' ry fun s4 I4 => ⟨σ, _, I4, ?_⟩
              exact p3 r3 _ σ (ext_write q3 e0 nf) (q3.write e0 nf (.dT upd_same ((g2.put kk zy).ext (ext_write q3 e0 nf)))) (hl3.ext (ext_write q3 e0 nf))
            | _ => cases hk
          · cases hset
        | _ => cases hset
  | _ => exact p3.elim
end
end MM
namespace MM
open PySem L2
mutual
/-- v' is v, the lists from n on frozen -/
inductive Frz (h : HM) (n : Nat) : Val → Val → Prop
  | non : Frz h n .non .non
  | bl (b : Bool) : Frz h n (.bl b) (.bl b)
  | int (b : Int) : Frz h n (.int b) (.int b)
  | str (b : Str) : Frz h n (.str b) (.str b)
  | fn (b : Nat) : Frz h n (.fn b) (.fn b)
  | ty (b : String) : Frz h n (.ty b) (.ty b)
  | scr (b : List Int) : Frz h n (.scr b) (.scr b)
  | tup {xs ys : List Val} : FrzS h n xs ys → Frz h n (.tup xs) (.tup ys)
  | lst {xs ys : List Val} : FrzS h n xs ys → Frz h n (.lst xs) (.lst ys)
  | ptup {xs ys : List Val} : FrzS h n xs ys → Frz h n (.ptup xs) (.ptup ys)
  | ref {k : Nat} : k < n → Frz h n (.ref k) (.ref k)
  | frz {k : Nat} {xs ys : List Val} : n ≤ k → h[k]? = some (.lst xs) → FrzS h n xs ys → Frz h n (.ref k) (.lst ys)
inductive FrzS (h : HM) (n : Nat) : List Val → List Val → Prop
  | nil : FrzS h n [] []
  | cons {x y : Val} {xs ys : List Val} : Frz h n x y → FrzS h n xs ys → FrzS h n (x :: xs) (y :: ys)
end
def FrzK {κ : Type} (h : HM) (n : Nat) : List (κ × Val) → List (κ × Val) → Prop := Paired fun p q => p.1 = q.1 ∧ Frz h n p.2 q.2
inductive FrzO (h : HM) (n : Nat) : Ob → Ob → Prop
  | lst {xs ys : List Val} : FrzS h n xs ys → FrzO h n (.lst xs) (.lst ys)
  | dK {xs ys : List (Key × Val)} : FrzK h n xs ys → FrzO h n (.dK xs) (.dK ys)
  | dT {xs ys : List (List Key × Val)} : FrzK h n xs ys → FrzO h n (.dT xs) (.dT ys)
  | ins {c : Nat} {xs ys : List Val} : FrzS h n xs ys → FrzO h n (.ins c xs) (.ins c ys)
  | lK {xs ys : List (Key × Val)} : FrzK h n xs ys → FrzO h n (.lK xs) (.lK ys)
  | lT {xs ys : List (List Key × Val)} : FrzK h n xs ys → FrzO h n (.lT xs) (.lT ys)
  | dN {ks : List ((Int × Int) × Int)} : FrzO h n (.dN ks) (.dN ks)
structure FrzH (h : HM) (h' : HM) : Prop where
  le : h'.length ≤ h.length
  ob : ∀ (i : Nat) (o o' : Ob), h[i]? = some o → h'[i]? = some o' → FrzO h h'.length o o'
/-- nothing points beyond -/
def Wf (h : HM) : Prop := ∀ o ∈ h, ∀ h', FrzO h' h.length o o
def Clo (n : Nat) (v : Val) : Prop := ∀ h', Frz h' n v v
def CloS (n : Nat) (v : List Val) : Prop := ∀ h', FrzS h' n v v
/-- what is promised less of -/
inductive Le (h0 : HM) : Res Val → Res Val → Prop
  | bad {x : Res Val} : Le h0 .bad x
  | same {x : Res Val} : Le h0 x x
  | ok {v v' : Val} {h h' : HM} : h0.length ≤ h'.length → FrzH h h' → Frz h h'.length v v' → Le h0 (.ok v' h') (.ok v h)
  | exc {c : Nat} {h h' : HM} : h0.length ≤ h'.length → FrzH h h' → Le h0 (.exc c h') (.exc c h)
section
variable {G : Glob} {r r' : Ad} {h h' : HM} {H H' : Hp} {n : Nat}
def Ad.cut (r : Ad) (n : Nat) : Ad := { r with ix := r.ix.take n }
mutual
theorem VR.clo {v : Val} {u : V} (z : VR G r H v u) : Clo r.ix.length v := by
  match v, u, z with
  | _, _, .non => exact fun _ => .non
  | _, _, .bl b => exact fun _ => .bl b
  | _, _, .int i => exact fun _ => .int i
  | _, _, .str x => exact fun _ => .str x
  | .tup xs, _, .tup dd o q => exact fun h => .tup (q.clo h)
  | .lst xs, _, .lst dd o q => exact fun h => .lst (q.clo h)
  | .ptup xs, _, .ptup dd dn o q => exact fun h => .ptup (q.clo h)
  | _, _, .ref e => exact fun h => .ref (List.getElem?_eq_some_iff.mp e).1
  | _, _, .fn _ => exact fun _ => .fn _
  | _, _, .ty _ => exact fun _ => .ty _
  | _, _, .scr _ => exact fun _ => .scr _
theorem VRs.clo {vs : List Val} {us : List V} (z : VRs G r H vs us) : CloS r.ix.length vs := by
  match vs, us, z with
  | _, _, .nil => exact fun _ => .nil
  | v :: vs, _, .cons q t => exact fun h => .cons (q.clo h) (t.clo h)
end
theorem KR.clo {κ : Type} {x : List (κ × Val)} {y : List (κ × V)} (q : KR G r H x y) (h : HM) : FrzK h r.ix.length x x := by
  induction q with
  | nil => exact .nil
  | cons a b ih => exact .cons ⟨rfl, a.2.clo h⟩ ih
theorem Rel.wf (q : Rel G r h H) : Wf h := by
  intro o ho h'
  obtain ⟨i, hi, e⟩ := List.mem_iff_getElem.mp ho
  obtain ⟨a, _, ob⟩ := q.adr (n := i) (o := o) (by simp [hi, e])
  rw [← q.len]
  cases ob with
  | lst h1 h2 => exact .lst (h2.clo h')
  | dK h1 h2 => exact .dK (h2.clo h')
  | dT h1 h2 => exact .dT (h2.clo h')
  | ins h1 h2 h3 h4 => exact .ins (h4.clo h')
  | lK h1 h2 => exact .lK (h2.clo h')
  | lT h1 h2 => exact .lT (h2.clo h')
  | dN h1 h2 h3 => exact .dN
theorem cut_at {k : Nat} {a : Addr} (e : r.ix[k]? = some a) (hk : k < n) : (r.cut n).ix[k]? = some a := by
  show (r.ix.take n)[k]? = some a
  rw [List.getElem?_take]
  simp [hk, e]
theorem cut_out {a : Addr} (o : r.out a) : (r.cut n).out a := ⟨fun m => o.1 (List.mem_of_mem_take m), o.2⟩
theorem cut_out2 (q : Rel G r h H) {k : Nat} {a : Addr} (e : r.ix[k]? = some a) (hk : n ≤ k) : (r.cut n).out a := by
  refine ⟨fun m => ?_, fun m => (q.hid a m).1 (List.mem_of_getElem? e)⟩
  obtain ⟨j, hj, ej⟩ := List.mem_iff_getElem.mp (show a ∈ r.ix.take n from m)
  have hj' : j < n := by simp at hj; omega
  have : r.ix[j]? = some a := by
    rw [List.getElem_take] at ej
    have : j < r.ix.length := by simp at hj; omega
    simp [this, ej]
  have := nodup_ixA q.nd this e
  omega
mutual
theorem VR.frz (q : Rel G r h H) {v v' : Val} {u : V} (z : VR G r H v u) (f : Frz h n v v') : VR G (r.cut n) H v' u := by
  match v, v', f with
  | _, _, .non => cases z; exact .non
  | _, _, .bl b => cases z; exact .bl b
  | _, _, .int i => cases z; exact .int i
  | _, _, .str x => cases z; exact .str x
  | _, _, .fn x => cases z with | fn e => exact .fn e
  | _, _, .ty x => cases z; exact .ty x
  | _, _, .scr x => cases z with | scr e => exact .scr (e.imp (fun z => ⟨z.1, cut_out z.2⟩) fun z => z)
  | _, _, .tup fs => cases z with | tup d o zz => exact .tup d (cut_out o) (VRs.frz q zz fs)
  | _, _, .lst fs => cases z with | lst d o zz => exact .lst d (cut_out o) (VRs.frz q zz fs)
  | _, _, .ptup fs => cases z with | ptup d dn o zz => exact .ptup d dn (cut_out o) (VRs.frz q zz fs)
  | _, _, .ref hk => cases z with | ref e => exact .ref (cut_at e hk)
  | _, _, .frz hk hn fs => cases z with
    | ref e =>
      obtain ⟨vs, d, zz⟩ := q.lst_at e hn
      exact .lst d (cut_out2 q e hk) (VRs.frz q zz fs)
theorem VRs.frz (q : Rel G r h H) {v v' : List Val} {u : List V} (z : VRs G r H v u) (f : FrzS h n v v') : VRs G (r.cut n) H v' u := by
  match v, v', f with
  | _, _, .nil => cases z; exact .nil
  | _, _, .cons a b => cases z with | cons x y => exact .cons (VR.frz q x a) (VRs.frz q y b)
end
theorem KR.frz {κ : Type} (q : Rel G r h H) {x x' : List (κ × Val)} {y : List (κ × V)} (z : KR G r H x y) (f : FrzK h n x x') : KR G (r.cut n) H x' y := by
  induction f generalizing y with
  | nil => cases z; exact .nil
  | cons a b ih => cases z with | cons c d => exact .cons ⟨a.1.symm.trans c.1, c.2.frz q a.2⟩ (ih d)
theorem Rel.frz (q : Rel G r h H) (f : FrzH h h') : Rel G (r.cut h'.length) h' H := by
  refine ⟨q.nd.sublist (List.take_sublist _ _), ?_, fun a m => ⟨fun m2 => (q.hid a m).1 (List.mem_of_mem_take m2), (q.hd a m).2⟩, fun i a o e1 e2 => ?_, q.lk, fun i a o e1 e2 hw => ?_⟩
  · show (r.ix.take _).length = _
    rw [List.length_take, q.len]
    have := f.le
    omega
  · have e1' : r.ix[i]? = some a := by
      have e1 : (r.ix.take h'.length)[i]? = some a := e1
      rw [List.getElem?_take] at e1
      split at e1
      · exact e1
      · cases e1
    obtain ⟨o0, ho, ob⟩ := q.at_ e1'
    have fo := f.ob i o0 o ho e2
    cases fo with
    | lst fs => cases ob with | lst h1 h2 => exact .lst h1 (h2.frz q fs)
    | dK fs => cases ob with | dK h1 h2 => exact .dK h1 (h2.frz q fs)
    | dT fs => cases ob with | dT h1 h2 => exact .dT h1 (h2.frz q fs)
    | ins fs => cases ob with | ins h1 h2 h3 h4 => exact .ins h1 h2 h3 (h4.frz q fs)
    | lK fs => cases ob with | lK h1 h2 => exact .lK h1 (h2.frz q fs)
    | lT fs => cases ob with | lT h1 h2 => exact .lT h1 (h2.frz q fs)
    | dN => cases ob with | dN h1 h2 h3 => exact .dN h1 h2 fun x hx => ⟨(h3 x hx).1, cut_out (h3 x hx).2.1, (h3 x hx).2.2.1, cut_out (h3 x hx).2.2.2⟩
  · have e1' : r.ix[i]? = some a := by
      have e1 : (r.ix.take h'.length)[i]? = some a := e1
      rw [List.getElem?_take] at e1
      split at e1
      · exact e1
      · cases e1
    obtain ⟨o0, ho, ob⟩ := q.at_ e1'
    have fo := f.ob i o0 o ho e2
    refine q.lo i a o0 e1' ho ?_
    cases fo <;> exact hw
theorem Ext.cut (e : Ext r H r' H') (hn : r.ix.length ≤ n) : Ext r H (r'.cut n) H' := by
  refine ⟨⟨?_, fun a u z o => ⟨(e.keep a u z o).1, cut_out (e.keep a u z o).2⟩⟩, e.hid, e.hk, e.lkk, e.lks⟩
  obtain ⟨t, ht⟩ := e.pre
  show r.ix <+: r'.ix.take n
  rw [← ht, List.take_append, List.take_of_length_le hn]
  exact List.prefix_append _ _
theorem Le.post {Q : VK} {E : XK} {x x' : Res Val} (le : Le h x' x) (q : Rel G r h H) (p : PostF G r H Q E x') : PostF G r H Q E x := by
  cases le with
  | bad => exact p.elim
  | same => exact p
  | ok hn fh fv => exact fun r' H' u e q' z => p _ H' u (e.cut (by rw [q.len]; exact hn)) (q'.frz fh) (z.frz q' fv)
  | exc hn fh => exact fun r' H' C e q' z => p _ H' C (e.cut (by rw [q.len]; exact hn)) (q'.frz fh) z
/-- m may be taken for m' -/
theorem FnM.le {P : Program} {w : World} {K : PySem.W.Frag} {mg : Str → Option Value} {base : Heap} {k : Nat} {f : Addr} {m m' : FM} (F : FnM P w K mg base G k f n m)
    (hl : ∀ xs h, xs.length = n → Wf h → CloS h.length xs → Le h (m' xs h) (m xs h)) : FnM P w K mg base G k f n m' :=
  F.imp fun r h H xs vs Q E q z hx p => (hl xs h hx q.wf (by rw [← q.len]; exact z.clo)).post q p
/-- what stands beyond is forgotten -/
theorem Wf.cut (w : Wf h) (g : HM) : FrzH (h ++ g) h := ⟨by simp, fun i o o' e1 e2 => by
  have hi : i < h.length := (List.getElem?_eq_some_iff.mp e2).1
  rw [List.getElem?_append_left hi] at e1
  rw [e1] at e2
  cases e2
  exact w o (List.mem_of_getElem? e1) _⟩
theorem Le.pure {v v' : Val} {g : HM} (w : Wf h) (f : Frz (h ++ g) h.length v v') : Le h (.ok v' h) (.ok v (h ++ g)) := .ok (Nat.le_refl _) (w.cut g) f
end
theorem tk0 {X : Cx} : Takes X W0 := fun _ _ ⟨_, _, _, _, _, _, _, _, _, _, _, _, _, _, _, _, w⟩ => w.elim
theorem FnM.at_ {P : Program} {w : World} {K : PySem.W.Frag} {mg : Str → Option Value} {base : Heap} {G : Glob} {k : Nat} {f : Addr} {x qual : Str} {params : Arguments} {body : List Stmt} {scope : Scope} {fd : FuncData} {N ps : List Str} {b : SM} (F : FunD K x qual params body scope [] [] f fd) (S : FnScope N ps scope)
    (hbody : ∀ (cdv : Value) (A : Around) (outer : List Env) (s : Shared) (H : Hp) (E : XK), Room k (A.deeper (PyProof.Rows.envOfC qual scope s.heap.objs.size f cdv)) →
      MSs (cxOf (L2.CX P w) P w K mg base N qual scope f cdv A outer s H E) G (fun cls d _ H => E cls d H) body b) : FnOk P w K mg base (L2.CX P w) (k + 1) f fd ps (spM G ps.length (mF N.length b)) := by
  refine F.ok S (fun vs H Q E h => h.1) (fun cdv A outer s H vs Q E hr h => ⟨_, hbody cdv A outer s H E hr, ?_⟩)
  obtain ⟨hl, r, h1, xs, q, z, p⟩ := h
  refine ⟨r, h1, _, q, z.start N, ?_⟩
  unfold mF at p
  revert p
  cases b (xs.map some ++ List.replicate (N.length - xs.length) none) h1 with
  | nx l h2 => exact fun p r' H' s' e q' _ => p r' H' _ e q' .non
  | rt v h2 => exact fun p => p
  | exc c l h2 => exact fun p r' H' s' C e q' _ g => p r' H' C e q' g
  | bad => exact fun p => p
theorem law_start {G : Glob} {m : FM} {H : Hp} {a : Addr} {ns : List Int} {h' : HM} (hS : SqL G.K H a (ns.map V.int)) (e : m [.scr ns] [] = .ok (.bl true) h') : spM G 1 m [.ref a] H (fun v _ => v = .bl true) fun _ _ _ => False := by
  refine ⟨rfl, ⟨[], [], []⟩, [], [.scr ns], ⟨List.nodup_nil, rfl, fun a m => (by cases m), fun n a o e => (by simp at e), fun a m => (by cases m), fun n a o e => (by simp at e)⟩, .cons (.scr ?_) .nil, ?_⟩
  · rcases hS with hS | hS
    · exact .inl ⟨hS, by simp [Ad.out]⟩
    · exact .inr fun H' => .inr hS
  · rw [e]
    intro r' H' u _ _ z
    cases z
    rfl
end MM
namespace MM
open PySem L2
theorem u1 {k : Nat} {A : Around} (hr : Room k A) : A.units + 1 < cLine := by have := hr.units; omega
end MM
namespace L2
open PySem
theorem Room.u1 {k : Nat} {A : Around} (hr : Room k A) : A.units + 1 < cLine := by have := hr.units; omega
theorem Room.u65 {k : Nat} {A : Around} (hr : Room k A) : A.units + 65 < cLine := by have := hr.un; omega
theorem Room.u200 {k : Nat} {A : Around} (hr : Room k A) : A.units + 200 < cLine := by have := hr.un; omega
end L2
namespace MM
open PySem L2
section
variable {X : Cx} {G : Glob} {W : WX} {r r1 r2 : Ad} {H H1 H2 : Hp} {h h1 : HM} {l : Loc} {s : St} {K : PySem.W.Frag} {a : Addr} {xs : List Val} {vs : List V} {n k : Nat} {pos : Pos} {e : Expr} {me : EM}
def eDictK : EM := fun _ h => .ok (.ref h.length) (h ++ [.dK []])
def eDictT : EM := fun _ h => .ok (.ref h.length) (h ++ [.dT []])
theorem post_alloc {Q : VK} {o : HO} {u : Ob} {a : Addr} (q : Rel G r h H) (n : H a = none) (z : ObR G (r.push a) (upd H a o) a u) (p : Post G W r H s (VR G) Q (.ok (.ref h.length) (h ++ [u]))) (hu : isLk u = false := by rfl) : Q (.ref a) (upd H a o) :=
  p (r.push a) _ _ (ext_alloc q n) (q.alloc n z hu) (.ref (by rw [← q.len]; exact get_last))
theorem me_dictT : ME X G W (.Dict [] [] pos) eDictT := ⟨fun pins s σ H Q I ⟨r, h, l, q, hl, p⟩ => pe_dnewT.run pins s σ H Q I fun a n => post_alloc q n (.dT upd_same .nil) p⟩
def eNegM (m : EM) : EM := fun l h => (m l h).bind fun v h1 => match v with
  | .int i => .ok (.int (-i)) h1
  | _ => .bad
def bTuple : BOp := fun xs h => match xs with
  | [.tup ys] => .ok (.tup ys) h
  | [.ptup ys] => .ok (.ptup ys) h
  | [v] => (match seqL v h with
    | some ys => .ok (.tup ys) h
    | none => .bad)
  | _ => .bad
theorem cm_tuple : CallM X G (.type "tuple") bTuple := .of call_tuple_of fun W σ r h H xs vs Q q z p => by
  unfold bTuple at p
  split at p
  · cases z with
    | cons z1 z2 =>
      cases z2
      cases z1 with
      | tup d o zz => exact ⟨_, _, rfl, .inr ⟨.inl (.inl d), Post.here q (.tup d o zz) p⟩⟩
  · cases z with
    | cons z1 z2 =>
      cases z2
      cases z1 with
      | ptup d dn o zz => exact ⟨_, _, rfl, .inr ⟨.inl (.inr ⟨_, d⟩), Post.here q (.ptup d dn o zz) p⟩⟩
  · split at p
    · rename_i ys e
      cases z with
      | cons z1 z2 =>
        cases z2
        obtain ⟨a, us, rfl, d, zz⟩ := seqL_ok q z1 e
        exact ⟨a, us, rfl, .inl ⟨.inl (.inl d), fun b n => p r _ _ (ext_new q n) (q.laid n) (.tup upd_same (q.new n) (zz.ext (ext_new q n)))⟩⟩
    · exact p.elim
  · exact p.elim
def keyV : Key → Val
  | .inl i => .int i
  | .inr x => .str x
theorem vr_key (k : Key) : VR G r H (keyV k) (kV k) := by cases k with
  | inl i => exact .int i
  | inr x => exact .str x
theorem KR.keysV {kvs : List (Key × Val)} {kv : List (Key × V)} (q : KR G r H kvs kv) : VRs G r H (kvs.map fun p => keyV p.1) (kv.map fun p => kV p.1) := by
  induction q with
  | nil => exact .nil
  | cons a b ih => exact .cons (by show VR _ _ _ (keyV _) (kV _); rw [a.1]; exact vr_key _) ih
def bInt : BOp := fun xs h => match xs with
  | [.int i] => .ok (.int i) h
  | [.bl k] => .ok (.int (if k then 1 else 0)) h
  | [.str x] => (match PySem.intText? x with
    | some n => if x.length ≤ 640 then .ok (.int n) h else .bad
    | none => .bad)
  | _ => .bad
theorem cm_int : CallM X G (.type "int") bInt := .of (CallR.or call_int1 call_int_str) fun W σ r h H xs vs Q q z p => by
  unfold bInt at p
  split at p
  · cases z with | cons z1 z2 => cases z2; cases z1; exact .inl (.inl ⟨_, rfl, Post.here q (.int _) p⟩)
  · cases z with | cons z1 z2 => cases z2; cases z1; exact .inl (.inr ⟨_, rfl, Post.here q (.int _) p⟩)
  · split at p
    · rename_i n e
      split at p
      · rename_i hz
        cases z with | cons z1 z2 => cases z2; cases z1; exact .inr ⟨_, _, rfl, e, hz, Post.here q (.int _) p⟩
      · exact p.elim
    · exact p.elim
  · exact p.elim
def bStr : BOp := fun xs h => match xs with
  | [.int i] => if i.natAbs.log2 < 1920 then .ok (.str (toString i)) h else .bad
  | _ => .bad
theorem cm_str : CallM X G (.type "str") bStr := .of call_str_int fun W σ r h H xs vs Q q z p => by
  unfold bStr at p
  split at p
  · split at p
    · rename_i hz
      cases z with | cons z1 z2 => cases z2; cases z1; exact ⟨_, rfl, hz, Post.here q (.str _) p⟩
    · exact p.elim
  · exact p.elim
def lockO : Ob → Option Ob
  | .dK kvs => some (.lK kvs)
  | .dT kvs => some (.lT kvs)
  | _ => none
/-- which: the walked dict's expression, read ahead -/
def eLock (which m : EM) : EM := fun l h => match which l h with
  | .ok (.ref n) _ => (match h[n]? with
    | some o => (match lockO o with
      | some o' => (match m l (h.set n o') with
        | .ok v h' => .ok v (h'.set n o)
        | _ => .bad)
      | none => .bad)
    | none => .bad)
  | _ => .bad
/-- the same of a statement -/
def sLock (which : EM) (m : SM) : SM := fun l h => match which l h with
  | .ok (.ref n) _ => (match h[n]? with
    | some o => (match lockO o with
      | some o' => (match m l (h.set n o') with
        | .nx l' h' => .nx l' (h'.set n o)
        | .rt v h' => .rt v (h'.set n o)
        | _ => .bad)
      | none => .bad)
    | none => .bad)
  | _ => .bad
/-- the keys of a locked dict -/
def keysSrc (v : Val) (h : HM) : Res Src := match v with
  | .ref n => (match h[n]? with
    | some (.lK kvs) => .ok (srcItems (kvs.map fun p => keyV p.1)) h
    | some (.lT kvs) => .ok (srcItems (kvs.map fun p => .tup (p.1.map keyV))) h
    | _ => .bad)
  | _ => .bad
def iKeysA (m : EM) : IM := fun l h => (m l h).bind keysSrc
theorem vr_tkey (ks : List Key) : VRs G r H (ks.map keyV) (ks.map kV) := by
  induction ks with
  | nil => exact .nil
  | cons k ks ih => exact .cons (vr_key k) ih
theorem out_tup (q : Rel G r h H) {p : Addr} {us : List V} (e : H p = some (.tup us)) : r.out p := by
  refine ⟨fun m => ?_, fun m => ?_⟩
  · obtain ⟨n, hn, en⟩ := List.mem_iff_getElem.mp m
    obtain ⟨o, _, ob⟩ := q.at_ (n := n) (a := p) (by simp [hn, en])
    have hne : ∀ {o : HO}, H p = some o → o = .tup us := fun z => by rw [e] at z; exact (Option.some.inj z).symm
    cases ob <;> (have z := hne ‹_›; cases z)
  · obtain ⟨vs, z⟩ := (q.hd p m).2
    rw [e] at z; cases z
variable {tg : Expr}
end
end MM
namespace MM
open PySem L2 PySem.W
abbrev Tri := Val × V × PyData
section
variable {X : Cx} {G : Glob} {W : WX} {r r1 r2 : Ad} {H H1 H2 : Hp} {h h1 : HM} {l : Loc} {s : Shared} {K : PySem.W.Frag} {a : Addr} {xs : List Val} {vs : List V} {n k : Nat} {pos : Pos} {e : Expr} {me : EM}
def dle (a b : Tri) : Bool := dataLe false (fun t : Tri => t.2.2) a b
/-- what may be sorted -/
structure CanSort (ds : List PyData) : Prop where
  al : AllAlike ds
  so : Sortable ds
  len : ds.length ≤ sizeLine
  dep : ∀ d ∈ ds, d.depth ≤ 60
theorem each_tri {pins : List (Addr × Obj)} {σ : St} {X : Cx} (I : Inv X pins σ H s) : ∀ {bs : List Tri} {its : List Value}, Vals (bs.map (·.2.1)) its → (∀ b ∈ bs, Dp X.K H b.2.1 b.2.2) →
    EachIs (fun u (b : Tri) => RelV b.2.1 u) its bs ∧ EachIs (fun u (b : Tri) => ∃ as, Reads s.heap u b.2.2 as) its bs
  | [], its, rv, _ => by
    rw [List.map_nil] at rv
    cases rv
    exact ⟨.nil, .nil⟩
  | b :: bs, its, rv, h => by
    rw [List.map_cons] at rv
    cases rv with
    | cons r1 r2 =>
      obtain ⟨t1, t2⟩ := each_tri I r2 fun b' m => h b' (List.mem_cons_of_mem _ m)
      exact ⟨.cons r1 t1, .cons (Dp.reads I b.2.2 b.2.1 _ (h b List.mem_cons_self) r1) t2⟩
theorem each_vals : ∀ {bs : List Tri} {out : List Value}, EachIs (fun u (b : Tri) => RelV b.2.1 u) out bs → Vals (bs.map (·.2.1)) out
  | _, _, .nil => .nil
  | _, _, .cons a b => .cons a (each_vals b)
def rSortD (K : PySem.W.Frag) : List V → Hp → VK → Prop := fun vs H Q => ∃ (a : Addr) (bs : List Tri), vs = [V.ref a] ∧ SqL K H a (bs.map (·.2.1)) ∧ (∀ b ∈ bs, Dp K H b.2.1 b.2.2) ∧ CanSort (bs.map (·.2.2)) ∧
  ∀ p, H p = none → Q (.ref p) (upd H p (.lst ((bs.mergeSort dle).map (·.2.1))))
theorem cr_sortD (hu : X.A.units + 200 < cLine) : CallR X (.builtin "sorted") (rSortD X.K) := by
  intro pins s σ H vs us Q I r h
  obtain ⟨a, bs, rfl, hs, hd, hc, q⟩ := h
  obtain ⟨its, rv, hl, hz⟩ := I.list hs
  obtain ⟨u, rfl, ru⟩ := vals1 r
  obtain rfl : u = Value.ref a := ru
  obtain ⟨e1, e2⟩ := each_tri I rv hd
  refine sorted_data (β := Tri) (enc := fun t => t.2.2) hl.isList e1 e2 hc.al hc.so (by simpa using hc.len) (fun b m => ?_) fun out ho he => ?_
  · have := hc.dep b.2.2 (List.mem_map.mpr ⟨b, m, rfl⟩)
    omega
  · obtain ⟨ep, he'⟩ := PyProof.Rows.sortedAll_at s.heap its out.toArray
    have rv2 := each_vals he
    have hlen : (((bs.mergeSort dle)).map (·.2.1)).length ≤ sizeLine := by
      rw [List.length_map, List.length_mergeSort]
      simpa using hc.len
    exact ⟨.ref _, upd H (s.heap.objs.size + 1) (.lst ((bs.mergeSort dle).map (·.2.1))), I.laid (t' := s.toks) (fun _ _ => PyProof.Rows.sortedAll_old) (Nat.le_succ _) ⟨hlen, out, ep, rv2, he'⟩, rfl, q _ (I.hok.fresh (Nat.le_succ _))⟩
/-- sorted(d): the keys -/
theorem sort_src {T : String} {ad fp : Addr} {P : Nat → Value → Prop} {OK : Heap → Prop} {pins : List (Addr × Obj)} {σ : St} {Q : VK} {bs : List Tri} (hu : X.A.units + 200 < cLine) (hcalm : X.calm = true) (I : Inv X pins σ H s) (S : PySem.W.KdlSrc X.prog X.w T ad fp bs.length P OK) (ok : OK s.heap)
    (hd : ∀ b ∈ bs, Dp X.K H b.2.1 b.2.2) (hc : CanSort (bs.map (·.2.2))) (hP : ∀ (acc : Array Value), ItemsOf P acc bs.length → Vals (bs.map (·.2.1)) acc.toList) (q : ∀ p, H p = none → Q (.ref p) (upd H p (.lst ((bs.mergeSort dle).map (·.2.1))))) :
    wpAny (model X.prog X.w) X.A (call (.builtin "sorted") [.ref ad]) (EP X pins σ Q) X.xe s := by
  have hlen0 : bs.length ≤ sizeLine := by simpa using hc.len
  refine Calls.call_function_entry PyProof.Rows.kind_sorted PyProof.Rows.plain_sorted PyProof.Rows.entry_sorted (PyProof.Rows.args_sorted1 _) ?_
  unfold Builtin.«sorted»
  refine wpAny_bind (m := checkCount "sorted" 1 1 _) (wpAny_pure ?_)
  refine wpAny_bind (PySem.W.kdu_collect (A := X.A.in1) S (I.ok.hd hcalm) ok hlen0 fun h' tk acc hk hacc => ?_)
  have rv := hP acc hacc
  have hal : acc.toList.length = bs.length := by have := rv.length; rw [List.length_map] at this; exact this.symm
  have I1 : Inv X pins σ H { s with heap := h', toks := tk } := I.kept hk
  obtain ⟨e1, e2⟩ := each_tri I1 rv hd
  refine wpAny_bind (wpAny_newList ?_ (by rw [hal]; exact hlen0))
  have hoL : (h'.push (PyProof.Rows.seqObj "list" acc.toList.toArray 0)).get? h'.objs.size = some (PyProof.Rows.seqObj "list" acc.toList.toArray 0) := Heap.get?_push_size _ rfl
  show wpAny _ _ _ _ _ { s with heap := h'.push (PyProof.Rows.seqObj "list" acc.toList.toArray 0), toks := tk }
  have e3 : EachIs (fun v (b : Tri) => ∃ as, Reads (PySem.W.sortingHeap (h'.push (PyProof.Rows.seqObj "list" acc.toList.toArray 0)) h'.objs.size acc.toList) v b.2.2 as) acc.toList bs := e2.mono fun v b ⟨as, rd⟩ => ⟨as, PyProof.Rows.Reads.keeps (fun b o eo => by
    have hb : b < h'.objs.size := Heap.lt_size eo
    exact PySem.W.sortingHeap_old (Nat.ne_of_lt hb) (Heap.get?_push_of_some _ eo)) rd⟩
  have hS : PySem.W.SortsAt X.prog X.w X.A.in1.in1 { s with heap := PySem.W.sortingHeap (h'.push (PyProof.Rows.seqObj "list" acc.toList.toArray 0)) h'.objs.size acc.toList, toks := tk } (dataKind (PySem.W.sortingHeap (h'.push (PyProof.Rows.seqObj "list" acc.toList.toArray 0)) h'.objs.size acc.toList) (bs.map (·.2.2))) acc.toList := by
    refine SortsAt.data (s := { s with heap := PySem.W.sortingHeap (h'.push (PyProof.Rows.seqObj "list" acc.toList.toArray 0)) h'.objs.size acc.toList, toks := tk }) (PySem.W.each_map (R := fun v d => ∃ as, Reads (PySem.W.sortingHeap (h'.push (PyProof.Rows.seqObj "list" acc.toList.toArray 0)) h'.objs.size acc.toList) v d as) (fun (t : Tri) => t.2.2) e3) hc.al hc.so fun d m => ?_
    have := hc.dep d m
    show X.A.units + 1 + 1 + d.depth < _
    omega
  refine wpAny_bind (wpAny_holding (wpAny_call_entry PyProof.Rows.slot_list_sort ⟨_, hoL, rfl⟩ PyProof.Rows.entry_list_sort
    (PySem.W.list_sort_vals (s := { s with heap := h'.push (PyProof.Rows.seqObj "list" acc.toList.toArray 0), toks := tk }) hoL hS (by rw [hal]; exact hlen0) ⟨_, rfl, ?_⟩) (PyProof.Rows.args_list_sort _)))
  have he := PySem.W.sortVals_data (h' := PySem.W.sortingHeap (h'.push (PyProof.Rows.seqObj "list" acc.toList.toArray 0)) h'.objs.size acc.toList) (enc := fun (t : Tri) => t.2.2) false e1 e3 hc.al
  have rv2 := each_vals he
  obtain ⟨ep, he'⟩ := PyProof.Rows.sortedHeap_at (vs := acc.toList) (out := (sortVals (dataKind (PySem.W.sortingHeap (h'.push (PyProof.Rows.seqObj "list" acc.toList.toArray 0)) h'.objs.size acc.toList) (bs.map (·.2.2))) false acc.toList acc.toList).toArray) hoL
  have hlen : (((bs.mergeSort dle)).map (·.2.1)).length ≤ sizeLine := by
    rw [List.length_map, List.length_mergeSort]
    exact hlen0
  refine wpAny_pure ⟨_, rfl, .ref h'.objs.size, upd H h'.objs.size (.lst ((bs.mergeSort dle).map (·.2.1))), I1.laid (t' := tk) (fun b u e => ?_) (Nat.le_refl _)
    (show ObjOk X.prog X.w _ _ _ (.lst ((bs.mergeSort dle).map (·.2.1))) from ⟨hlen, _, ep, rv2, he'⟩), rfl, q _ (I1.hok.fresh (Nat.le_refl _))⟩
  have hb : b < h'.objs.size := Heap.lt_size e
  rw [PyProof.Rows.sortedHeap_old (Nat.ne_of_lt hb) (by rw [PyProof.Rows.size_push']; exact Nat.lt_succ_of_lt hb)]
  exact Heap.get?_push_of_some _ e
/-- sorted(d) of keys that are ints or texts -/
def rSortK : List V → Hp → VK → Prop := fun vs H Q => ∃ (a : Addr) (kvs : List (Key × V)) (bs : List Tri), vs = [V.ref a] ∧ Rd H a (.dK kvs) ∧ bs.map (·.2.1) = kvs.map (fun p => kV p.1) ∧ (∀ K, ∀ b ∈ bs, Dp K H b.2.1 b.2.2) ∧ CanSort (bs.map (·.2.2)) ∧
  ∀ p, H p = none → Q (.ref p) (upd H p (.lst ((bs.mergeSort dle).map (·.2.1))))
def rSortT : List V → Hp → VK → Prop := fun vs H Q => ∃ (a : Addr) (kvs : List (List Key × V)), vs = [V.ref a] ∧ Rd H a (.dT kvs) ∧ ∀ ads, IsKeys H kvs ads → ∃ bs : List Tri, bs.map (·.2.1) = ads.map V.ref ∧ (∀ K, ∀ b ∈ bs, Dp K H b.2.1 b.2.2) ∧ CanSort (bs.map (·.2.2)) ∧
  ∀ p, H p = none → Q (.ref p) (upd H p (.lst ((bs.mergeSort dle).map (·.2.1))))
theorem cr_sortK (hu : X.A.units + 200 < cLine) (hcalm : X.calm = true) : CallR X (.builtin "sorted") rSortK := by
  intro pins s σ H vs us Q I r h
  obtain ⟨a, kvs, bs, rfl, hd, hb, hdp, hc, q⟩ := h
  obtain ⟨u, rfl, ru⟩ := vals1 r
  obtain rfl : u = Value.ref a := ru
  obtain ⟨z, lo, us, rel, dd⟩ := dk_rd I.hok hd
  obtain ⟨ep, hat⟩ := dd.dictAt
  have hl : bs.length = us.length := by
    have e := congrArg List.length hb
    rw [List.length_map, List.length_map] at e
    rw [e]; exact Paired.length rel
  have S := PySem.W.kdl_dict (prog := X.prog) (w := X.w) (knd := mixKind X.prog X.w) (kvs := us) (ep := ep) lo
  rw [← hl] at S
  refine sort_src (bs := bs) hu hcalm I S hat (hdp X.K) hc (fun acc hacc => ?_) q
  have hk : us.map (fun p => kV p.1) = bs.map (·.2.1) := by
    rw [hb]
    have e := KV.keys rel
    have e3 : (us.map fun kv => kV kv.1) = (us.map (·.1)).map kV := by rw [List.map_map]; rfl
    have e4 : (kvs.map fun kv => kV kv.1) = (kvs.map (·.1)).map kV := by rw [List.map_map]; rfl
    rw [e3, e4, e]
  rw [← hk]
  refine keys_at (by rw [Array.length_toList, hacc.1, hl]) fun j v e => ?_
  obtain ⟨k, x, e1, e2⟩ := hacc.2 j v (by rw [← Array.getElem?_toList]; exact e)
  exact ⟨k, x, e1, e2⟩
theorem cr_sortT (hu : X.A.units + 200 < cLine) (hcalm : X.calm = true) : CallR X (.builtin "sorted") rSortT := by
  intro pins s σ H vs us Q I r h
  obtain ⟨a, kvs, rfl, hd, hb⟩ := h
  obtain ⟨u, rfl, ru⟩ := vals1 r
  obtain rfl : u = Value.ref a := ru
  obtain ⟨z, hs, ks, pr, o, es, ep, ho, hx, hdt, he, hn⟩ := (show ObjOk X.prog X.w H s.heap a (.dT kvs) from hd.ok I.hok)
  have l1 : es.size = ks.length := size_of_entries he
  have l2 : kvs.length = ks.length := Paired.length pr
  obtain ⟨bs, hbs, hdp, hc, q⟩ := hb _ (isKeys_of pr)
  have l3 : bs.length = ks.length := by
    have e := congrArg List.length hbs
    simpa using e
  have S := kdl_raw (prog := X.prog) (w := X.w) (d := a) (o := o) (es := es) (ep := ep) hs hx hdt
  rw [l1, ← l3] at S
  refine sort_src (bs := bs) hu hcalm I S ho (hdp X.K) hc (fun acc it => ?_) q
  have ea : acc.toList = ks.map fun x => Value.ref x.2.1 := by
    have hl : acc.toList.length = ks.length := by rw [Array.length_toList, it.1]; exact l3
    apply List.ext_getElem?
    intro j
    rw [List.getElem?_map]
    cases hj : acc.toList[j]? with
    | none =>
      have h1 := List.getElem?_eq_none_iff.mp hj
      rw [List.getElem?_eq_none (by omega)]
      rfl
    | some v =>
      obtain ⟨en, hen, hv⟩ := it.2 j v (by rw [← Array.getElem?_toList]; exact hj)
      have qe := entry_at he j
      rw [hen] at qe
      cases hb : ks[j]? with
      | none => rw [hb] at qe; cases qe
      | some x =>
        rw [hb] at qe
        have : en = entryOfKey (tupleKind (mixKind X.prog X.w)) x := Option.some.inj qe
        subst this
        subst hv
        rfl
  rw [hbs, ea]
  have := vals_refs (ks.map fun x => x.2.1)
  rw [List.map_map, List.map_map] at this
  rw [List.map_map]
  exact this
noncomputable def sortV (xs : List Val) (ds : List PyData) : List Val := ((xs.zip ds).mergeSort fun a b => dataLe false (fun t : Val × PyData => t.2) a b).map (·.1)
def sortItems (v : Val) (h : HM) : Option (List Val) := match v with
  | .lst xs => some xs
  | .ref n => (match h[n]? with
    | some (.lst xs) => some xs
    | some (.dK kvs) => some (kvs.map fun p => keyV p.1)
    | some (.dT kvs) => some (kvs.map fun p => .tup (p.1.map keyV))
    | _ => none)
  | _ => none
open Classical in
noncomputable def bSorted : BOp := fun xs h => match xs with
  | [v] => (match sortItems v h with
    | some ys => (match datFs ys with
      | some ds => if CanSort ds then .ok (.lst (sortV ys ds)) h else .bad
      | none => .bad)
    | none => .bad)
  | _ => .bad
theorem tri_sort (bs : List Tri) : (bs.mergeSort dle).map (·.1) = sortV (bs.map (·.1)) (bs.map (·.2.2)) := by
  have e : (bs.map (·.1)).zip (bs.map (·.2.2)) = bs.map fun b => (b.1, b.2.2) := by
    induction bs with
    | nil => rfl
    | cons b bs ih => simp [ih]
  unfold sortV
  rw [e, ← List.map_mergeSort (r := dle) (f := fun b : Tri => (b.1, b.2.2)) (fun a _ b _ => rfl), List.map_map]
  rfl
theorem tri_vrs {G : Glob} {r : Ad} {H : Hp} {bs : List Tri} (h : ∀ b ∈ bs, VR G r H b.1 b.2.1) : VRs G r H (bs.map (·.1)) (bs.map (·.2.1)) := by
  induction bs with
  | nil => exact .nil
  | cons b bs ih => exact .cons (h b List.mem_cons_self) (ih fun b' m => h b' (List.mem_cons_of_mem _ m))
theorem tri_of {G : Glob} {r : Ad} {H : Hp} : ∀ {xs : List Val} {us : List V} {ds : List PyData}, VRs G r H xs us → datFs xs = some ds → ∃ bs : List Tri, bs.map (·.1) = xs ∧ bs.map (·.2.1) = us ∧ bs.map (·.2.2) = ds ∧ ∀ b ∈ bs, VR G r H b.1 b.2.1 ∧ ∀ K, Dp K H b.2.1 b.2.2
  | _, _, _, .nil, e => by cases e; exact ⟨[], rfl, rfl, rfl, fun b m => by cases m⟩
  | x :: xs, u :: us, _, .cons a b, e => by
    simp only [datFs] at e
    split at e
    · rename_i d ds' e1 e2
      cases e
      obtain ⟨bs, h1, h2, h3, h4⟩ := tri_of b e2
      refine ⟨(x, u, d) :: bs, by rw [List.map_cons, h1], by rw [List.map_cons, h2], by rw [List.map_cons, h3], fun b' m => ?_⟩
      rcases List.mem_cons.mp m with rfl | m
      · exact ⟨a, fun K => datF_ok a e1⟩
      · exact h4 b' m
    · cases e
theorem tri_fin {G : Glob} {W : WX} {r : Ad} {h : HM} {H : Hp} {σ : St} {Q : VK} {bs : List Tri} {ys : List Val} {ds : List PyData} (q : Rel G r h H) (h1 : bs.map (·.1) = ys) (h3 : bs.map (·.2.2) = ds) (h4 : ∀ b ∈ bs, VR G r H b.1 b.2.1 ∧ ∀ K, Dp K H b.2.1 b.2.2)
    (p : Post G W r H σ (VR G) Q (.ok (.lst (sortV ys ds)) h)) : ∀ p, H p = none → Q (.ref p) (upd H p (.lst ((bs.mergeSort dle).map (·.2.1)))) := fun b n => by
  subst h1 h3
  rw [← tri_sort] at p
  have zz := tri_vrs (bs := bs.mergeSort dle) fun b' m => (h4 b' (List.mem_mergeSort.mp m)).1
  exact p r _ _ (ext_new q n) (q.laid n) (.lst upd_same (q.new n) (zz.ext (ext_new q n)))
theorem tkeys_vrs {G : Glob} {r : Ad} {h : HM} {H : Hp} (q : Rel G r h H) : ∀ {kvs : List (List Key × Val)} {kv : List (List Key × V)} {ads : List Addr}, KR G r H kvs kv → IsKeys H kv ads → VRs G r H (kvs.map fun p => .tup (p.1.map keyV)) (ads.map V.ref)
  | _, _, _, .nil, ha => by cases ha; exact .nil
  | x :: _, y :: _, _, .cons a b, ha => by
    cases ha with
    | cons c d =>
      refine .cons ?_ (tkeys_vrs q b d)
      show VR _ _ _ (.tup (List.map keyV x.1)) _
      rw [a.1]
      exact .tup c (out_tup q c) (vr_tkey _)
theorem cm_sorted (hu : X.A.units + 200 < cLine) (hc : X.calm = true) : CallM X G (.builtin "sorted") bSorted := .of (CallR.or (cr_sortD hu) (CallR.or (cr_sortK hu hc) (cr_sortT hu hc))) fun W σ r h H xs vs Q q z p => by
  unfold bSorted at p
  split at p
  · rename_i v
    cases z with
    | cons z1 z2 =>
      cases z2
      cases ei : sortItems v h with
      | none => rw [ei] at p; exact p.elim
      | some ys =>
        rw [ei] at p
        dsimp only at p
        cases ed : datFs ys with
        | none => rw [ed] at p; exact p.elim
        | some ds =>
          rw [ed] at p
          dsimp only at p
          by_cases hcs : CanSort ds
          · rw [if_pos hcs] at p
            have seq : ∀ {a us}, H a = some (.lst us) → VRs G r H ys us → rSortD X.K [.ref a] H Q := fun {a us} d zz => by
              obtain ⟨bs, h1, h2, h3, h4⟩ := tri_of zz ed
              exact ⟨a, bs, rfl, by rw [h2]; exact .inl (.inl d), fun b m => (h4 b m).2 X.K, by rw [h3]; exact hcs, tri_fin q h1 h3 h4 p⟩
            cases z1 with
            | lst d o zz => cases ei; exact .inl (seq d zz)
            | ref e0 =>
              obtain ⟨o, ho, ob⟩ := q.at_ e0
              simp only [sortItems, ho] at ei
              cases ob with
              | lst g1 g2 => cases ei; exact .inl (seq g1 g2)
              | dK g1 g2 =>
                cases ei
                obtain ⟨bs, h1, h2, h3, h4⟩ := tri_of g2.keysV ed
                exact .inr (.inl ⟨_, _, bs, rfl, .inl g1, h2, fun K b m => (h4 b m).2 K, by rw [h3]; exact hcs, tri_fin q h1 h3 h4 p⟩)
              | @dT kvs kv g1 g2 =>
                cases ei
                refine .inr (.inr ⟨_, kv, rfl, .inl g1, fun ads ha => ?_⟩)
                have zz : VRs G r H (kvs.map fun p => .tup (p.1.map keyV)) (ads.map V.ref) := tkeys_vrs q g2 ha
                obtain ⟨bs, h1, h2, h3, h4⟩ := tri_of zz ed
                exact ⟨bs, h2, fun K b m => (h4 b m).2 K, by rw [h3]; exact hcs, tri_fin q h1 h3 h4 p⟩
              | _ => cases ei
            | _ => cases ei
          · rw [if_neg hcs] at p; exact p.elim
  · exact p.elim
end
end MM
namespace MM
open PySem L2
section
variable {X : Cx} {G : Glob} {W : WX} {r r1 r2 : Ad} {H H1 H2 : Hp} {h h1 : HM} {l : Loc} {K : PySem.W.Frag} {a : Addr} {xs : List Val} {vs : List V} {n k : Nat} {pos : Pos} {e : Expr} {me : EM}
mutual
/-- the value that a datum reads as -/
def ofD : PyData → Val
  | .none => .non
  | .bool b => .bl b
  | .int i => .int i
  | .str x => .str x
  | .list xs => .lst (ofDs xs)
  | .tuple xs => .tup (ofDs xs)
  | .dict _ => .non
def ofDs : List PyData → List Val
  | [] => []
  | x :: xs => ofD x :: ofDs xs
end
mutual
/-- no pinned tuple within -/
def noP : Val → Bool
  | .tup xs => noPs xs
  | .lst xs => noPs xs
  | .ptup _ => false
  | _ => true
def noPs : List Val → Bool
  | [] => true
  | x :: xs => noP x && noPs xs
end
end
open Classical in
noncomputable def vDfl (m : PyData → List PyData → PyData) (v d : Val) (h : HM) : Res Val := match seqL v h with
  | some xs => (match datFs xs with
    | some [] => .ok d h
    | some (y :: ys) => if PySem.W.AlikeAll (y :: ys) ∧ SeqAt.shaped (.list (y :: ys)) = true ∧ noPs xs = true then .ok (ofD (m y ys)) h else .bad
    | none => .bad)
  | none => .bad
noncomputable def eDfl (m : PyData → List PyData → PyData) (a d : EM) : EM := fun l h => (a l h).bind fun x h1 => (d l h1).bind fun y h2 => vDfl m x y h2
end MM
namespace MM
open PySem L2
section
variable {X : Cx} {G : Glob} {W : WX} {r r1 r2 : Ad} {H H1 H2 : Hp} {h h1 : HM} {l : Loc} {K : PySem.W.Frag} {a : Addr} {xs : List Val} {vs : List V} {n k : Nat} {pos : Pos} {e : Expr} {me : EM}
theorem cr_tupleP : CallR X (.type "tuple") (fun xs H Q => ∃ p ys, xs = [.ref p] ∧ SqL X.K H p ys ∧ ∀ l o, H l = none → o.dict = none → Q (.ref l) (upd H l (.frz o (.tup ys)))) := by
  intro pins s σ H xs us Q I rv h
  obtain ⟨p, ys, rfl, hq, q⟩ := h
  obtain ⟨u, rfl, rx⟩ := vals1 rv
  obtain rfl : u = Value.ref p := rx
  obtain ⟨its, r', pl, hz⟩ := I.list hq
  have hlen := r'.length
  refine call_tuple_list pl.isList (fun h' kp => ?_) (by simp only [List.size_toArray]; omega)
  have I1 : Inv X pins σ H { s with heap := h' } := I.kept (t' := s.toks) kp
  have I2 := I1.laid (t' := s.toks) (a := h'.objs.size) (o := .frz { cls := .type "tuple", data := .seq its.toArray } (.tup ys)) (h' := h'.push { cls := .type "tuple", data := .seq its.toArray }) (fun b o e => Heap.get?_push_of_some _ e) (Nat.le_refl _)
    (show ObjOk X.prog X.w _ _ _ (.frz _ (.tup ys)) from ⟨Heap.get?_push_size _ rfl, hz, its, r', PyProof.Rows.IsTup.new _ _⟩)
  exact ⟨.ref h'.objs.size, _, I2, rfl, q _ _ (I1.hok.fresh (Nat.le_refl _)) rfl⟩
/-- tuple(list), pinned -/
def bTupleP : BOp := fun xs h => match xs with
  | [v] => (match seqL v h with
    | some ys => .ok (.ptup ys) h
    | none => .bad)
  | _ => .bad
theorem cm_tupleP : CallM X G (.type "tuple") bTupleP := .of cr_tupleP fun W σ r h H xs vs Q q z p => by
  unfold bTupleP at p
  split at p
  · split at p
    · rename_i ys e
      cases z with
      | cons z1 z2 =>
        cases z2
        obtain ⟨a, us, rfl, d, zz⟩ := seqL_ok q z1 e
        exact ⟨a, us, rfl, .inl (.inl d), fun b o n nd => p r _ _ (ext_new q n) (q.laid n) (.ptup upd_same nd (q.new n) (zz.ext (ext_new q n)))⟩
    · exact p.elim
  · exact p.elim
end
end MM
namespace MM
open PySem L2
end MM
namespace MM
open PySem L2
section
variable {l : Loc} {h h1 : HM} {v : Val} {i n : Nat}
@[simp] theorem ev_C : eC v l h = .ok v h := (rfl)
@[simp] theorem ev_Var0 : eVar 0 (some v :: l) h = .ok v h := (rfl)
@[simp] theorem ev_VarS {x : Option Val} : eVar (i + 1) (x :: l) h = eVar i l h := (rfl)
@[simp] theorem ev_e2 {g : VOp} {a b : EM} : e2 g a b l h = (a l h).bind fun x h1 => (b l h1).bind fun y h2 => g x y h2 := (rfl)
@[simp] theorem ev_tOf {m : EM} : tOf m l h = (m l h).bind toB := (rfl)
@[simp] theorem ev_tTru {m : EM} : tTru m l h = (m l h).bind truV := (rfl)
@[simp] theorem ev_toB {b : Bool} : toB (.bl b) h = .ok b h := (rfl)
@[simp] theorem ev_truB {b : Bool} : truV (.bl b) h = .ok b h := (rfl)
@[simp] theorem ev_truL {xs : List Val} : truV (.lst xs) h = .ok (!xs.isEmpty) h := (rfl)
@[simp] theorem ev_truT {xs : List Val} : truV (.tup xs) h = .ok (!xs.isEmpty) h := (rfl)
@[simp] theorem ev_tAnd {a b : TM} : tAndM a b l h = (a l h).bind fun c h1 => if c = true then b l h1 else .ok false h1 := (rfl)
@[simp] theorem ev_tOr {a b : TM} : tOrM a b l h = (a l h).bind fun c h1 => if c = true then .ok true h1 else b l h1 := (rfl)
@[simp] theorem ev_tNot {a : TM} : tNotM a l h = (a l h).bind fun c h1 => .ok (!c) h1 := (rfl)
@[simp] theorem ev_eAnd {a b : EM} : eAndM a b l h = (a l h).bind fun x h1 => (toB x h1).bind fun c h2 => if c = true then b l h2 else .ok (.bl false) h2 := (rfl)
@[simp] theorem ev_eOr {a b : EM} : eOrM a b l h = (a l h).bind fun x h1 => (toB x h1).bind fun c h2 => if c = true then .ok (.bl true) h2 else b l h2 := (rfl)
@[simp] theorem ev_eNot {a : EM} : eNotM a l h = (a l h).bind fun x h1 => (truV x h1).bind fun c h2 => .ok (.bl (!c)) h2 := (rfl)
@[simp] theorem ev_eIf {t : TM} {a b : EM} : eIfM t a b l h = (t l h).bind fun c h1 => if c = true then a l h1 else b l h1 := (rfl)
@[simp] theorem ev_aNil : aNil l h = .ok [] h := (rfl)
@[simp] theorem ev_aCons {a : EM} {t : AM} : aCons a t l h = (a l h).bind fun x h1 => (t l h1).bind fun xs h2 => .ok (x :: xs) h2 := (rfl)
@[simp] theorem ev_eDisp {mk : List Val → HM → Res Val} {m : AM} : eDisp mk m l h = (m l h).bind mk := (rfl)
@[simp] theorem ev_mkTup {xs : List Val} (hz : xs.length ≤ 1000) : mkTup xs h = .ok (.tup xs) h := if_pos (by rw [sizeLine_eq]; omega)
@[simp] theorem ev_mkLst {xs : List Val} (hz : xs.length ≤ 1000) : mkLst xs h = .ok (.lst xs) h := if_pos (by rw [sizeLine_eq]; omega)
@[simp] theorem ev_mkRef {xs : List Val} (hz : xs.length ≤ 1000) : mkRef xs h = .ok (.ref h.length) (h ++ [.lst xs]) := if_pos (by rw [sizeLine_eq]; omega)
@[simp] theorem ev_eCall {m : FM} {as : AM} : eCall m as l h = (as l h).bind m := (rfl)
@[simp] theorem ev_eBi {g : BOp} {m : AM} : eBi g m l h = (m l h).bind g := (rfl)
@[simp] theorem ev_sNil : sNil l h = .nx l h := (rfl)
@[simp] theorem ev_sSeq {a b : SM} : sSeq a b l h = match a l h with | .nx l1 h1 => b l1 h1 | x => x := (rfl)
@[simp] theorem ev_sDrop {m : EM} : sDrop m l h = (m l h).thn l fun _ h1 => .nx l h1 := (rfl)
@[simp] theorem ev_sRet {m : EM} : sRet m l h = (m l h).thn l fun v h1 => .rt v h1 := (rfl)
@[simp] theorem ev_sIf {t : TM} {a b : SM} : sIf t a b l h = (t l h).thn l fun c h1 => if c = true then a l h1 else b l h1 := (rfl)
@[simp] theorem ev_sAsg {m : EM} {g : GM} : sAsg m g l h = (m l h).thn l fun x h1 => match g x l with | some l1 => .nx l1 h1 | none => .bad := (rfl)
@[simp] theorem ev_gNm0 {x : Option Val} : gNm 0 v (x :: l) = some (some v :: l) := (rfl)
@[simp] theorem ev_gNmS {x : Option Val} : gNm (i + 1) v (x :: l) = (gNm i v l).map (x :: ·) := (rfl)
@[simp] theorem ev_gsNil : gsNil [] l = some l := (rfl)
@[simp] theorem ev_gsCons {g : GM} {t : GsM} {xs : List Val} : gsCons g t (v :: xs) l = (g v l).bind fun l1 => t xs l1 := (rfl)
@[simp] theorem ev_gTp {gs : GsM} {xs : List Val} : gTp n gs (.tup xs) l = if xs.length = n then gs xs l else none := (rfl)
@[simp] theorem ev_sFor {ms : IM} {g : GM} {b : SM} : sFor ms g b l h = (ms l h).thn l fun src h1 => forL src g b src.len 0 l h1 := (rfl)
@[simp] theorem ev_iArgs {f : List Val → HM → Res Src} {m : AM} : iArgs f m l h = (m l h).bind f := (rfl)
@[simp] theorem ev_iVal {m : EM} : iVal m l h = (m l h).bind srcOf := (rfl)
@[simp] theorem ev_eLc {mi : IM} {g : GM} {tt : TM} {te : EM} {vs : List Nat} {mk : List Val → HM → Res Val} : eLc mi g tt te vs mk l h = (mi l h).bind fun src h1 => (lcL src g tt te (wipeL l vs) src.len 0 h1 []).bind mk := (rfl)
@[simp] theorem ev_frozen {xs : List Val} : frozen xs h = .ok (.lst xs) h := (rfl)
@[simp] theorem ev_tYes : tYesM l h = .ok true h := (rfl)
@[simp] theorem ev_eBm {T : Kd} {g : MOp} {mo : EM} {ma : AM} : eBm T g mo ma l h = (mo l h).bind fun o h1 => if isKd T o h1 = true then (ma l h1).bind fun xs h2 => g o xs h2 else .bad := (rfl)
@[simp] theorem ev_kdS {x : Str} : isKd .str (.str x) h = true := (rfl)
@[simp] theorem ev_eSl {m : EM} {lo hi : OM} : eSl m lo hi l h = (m l h).bind fun x h1 => (lo l h1).bind fun a h2 => (hi l h2).bind fun b h3 => vSl x a b h3 := (rfl)
@[simp] theorem ev_oNone : oNone l h = .ok none h := (rfl)
@[simp] theorem ev_oSome {m : EM} : oSome m l h = (m l h).bind fun v h1 => match v with | .int i => .ok (some i) h1 | _ => .bad := (rfl)
@[simp] theorem ev_eCh {g g' : VOp} {a b c : EM} : eChM g g' a b c l h = (a l h).bind fun x h1 => (b l h1).bind fun y h2 => (g x y h2).bind fun z h3 => (toB z h3).bind fun k h4 => if k = true then (c l h4).bind fun w h5 => g' y w h5 else .ok (.bl false) h4 := (rfl)
@[simp] theorem ev_addI {a b : Int} : vAdd (.int a) (.int b) h = .ok (.int (a + b)) h := (rfl)
@[simp] theorem ev_subI {a b : Int} : vSub (.int a) (.int b) h = .ok (.int (a - b)) h := (rfl)
@[simp] theorem ev_ltI {a b : Int} : vLt (.int a) (.int b) h = .ok (.bl (decide (a < b))) h := (rfl)
@[simp] theorem ev_leI {a b : Int} : vLe (.int a) (.int b) h = .ok (.bl (decide (a ≤ b))) h := (rfl)
@[simp] theorem ev_gtI {a b : Int} : vGt (.int a) (.int b) h = .ok (.bl (decide (b < a))) h := (rfl)
@[simp] theorem ev_geI {a b : Int} : vGe (.int a) (.int b) h = .ok (.bl (decide (b ≤ a))) h := (rfl)
theorem ev_modI {a b : Int} (hb : 0 < b) : vMod (.int a) (.int b) h = .ok (.int (a % b)) h := if_pos hb
theorem ev_mulI {a b : Int} (hb : (-(2 ^ 64) < a ∧ a < 2 ^ 64) ∨ (-(2 ^ 64) < b ∧ b < 2 ^ 64)) : vMul (.int a) (.int b) h = .ok (.int (a * b)) h := if_pos hb
@[simp] theorem ev_eqI {a b : Int} : vEq (.int a) (.int b) h = .ok (.bl (decide (a = b))) h := by
  have e : PyData.eqv (.int a) (.int b) = decide (a = b) := by
    show (a == b) = _
    by_cases e : a = b <;> simp [e]
  show (if (SeqAt.shaped (.int a) && SeqAt.shaped (.int b)) = true then (Res.ok (Val.bl (PyData.eqv (.int a) (.int b))) h : Res Val) else .bad) = _
  rw [e]
  rfl
@[simp] theorem ev_isNonB {b : Bool} : vIsNot (.bl b) .non h = .ok (.bl true) h := (rfl)
@[simp] theorem ev_isBB {a b : Bool} : vIs (.bl a) (.bl b) h = .ok (.bl (decide (a = b))) h := (rfl)
@[simp] theorem ev_isNotBB {a b : Bool} : vIsNot (.bl a) (.bl b) h = .ok (.bl (!decide (a = b))) h := (rfl)
@[simp] theorem ev_rng1 {j : Int} (hj : -(2 ^ 62) ≤ j ∧ j < 2 ^ 62) : rng1 [.int j] h = .ok (srcItems (intsV 0 j.toNat)) h := if_pos hj
theorem ev_lenS {x : Str} (hz : x.length ≤ sizeLine) : bLen [.str x] h = .ok (.int x.length) h := by simp [bLen, lenN, hz]
@[simp] theorem ev_lenL {xs : List Val} : bLen [.lst xs] h = .ok (.int xs.length) h := (rfl)
@[simp] theorem ev_lenT {xs : List Val} : bLen [.tup xs] h = .ok (.int xs.length) h := (rfl)
@[simp] theorem ev_lenScr {xs : List Int} : bLen [.scr xs] h = .ok (.int xs.length) h := (rfl)
end
/-- a comprehension over what stands: each turn tells whether, and what -/
theorem lc_pure {xs : List Val} {g : GM} {tt : TM} {te : EM} {l : Loc} {h : HM} (f : Val → Option Val) (hf : ∀ x ∈ xs, ∃ l1, g x l = some l1 ∧ ((f x = none ∧ tt l1 h = .ok false h) ∨ ∃ y, f x = some y ∧ tt l1 h = .ok true h ∧ te l1 h = .ok y h)) (hl : xs.length ≤ sizeLine) :
    lcL (srcItems xs) g tt te l (srcItems xs).len 0 h [] = .ok (xs.filterMap f) h := by
  have gen : ∀ (n i : Nat) (acc : List Val), i + n = xs.length → acc.length ≤ i → lcL (srcItems xs) g tt te l n i h acc = .ok (acc ++ (xs.drop i).filterMap f) h := by
    intro n
    induction n with
    | zero =>
      intro i acc hi ha
      have : xs.drop i = [] := List.drop_eq_nil_of_le (by omega)
      simp [lcL, this, srcItems]
    | succ n ih =>
      intro i acc hi ha
      have hlt : i < xs.length := by omega
      have hg : (srcItems xs).get i h = some xs[i] := by simp [srcItems, hlt]
      have hd : xs.drop i = xs[i] :: xs.drop (i + 1) := List.drop_eq_getElem_cons hlt
      obtain ⟨l1, e1, hh⟩ := hf xs[i] (List.getElem_mem hlt)
      simp only [lcL, hg, e1]
      rcases hh with ⟨e2, e3⟩ | ⟨y, e2, e3, e4⟩
      · rw [e3]
        simp only
        rw [ih (i + 1) acc (by omega) (by omega), hd, List.filterMap_cons, e2]
      · rw [e3]
        simp only
        rw [e4]
        simp only
        rw [if_pos (by omega), ih (i + 1) (acc ++ [y]) (by omega) (by simp; omega), hd, List.filterMap_cons, e2]
        simp
  have := gen xs.length 0 [] (by omega) (Nat.le_refl _)
  rw [List.nil_append, List.drop_zero] at this
  exact this
theorem lc_map {xs : List Val} {g : GM} {te : EM} {l : Loc} {h : HM} (f : Val → Val) (hf : ∀ x ∈ xs, ∃ l1, g x l = some l1 ∧ te l1 h = .ok (f x) h) (hl : xs.length ≤ sizeLine) :
    lcL (srcItems xs) g tYesM te l (srcItems xs).len 0 h [] = .ok (xs.map f) h := by
  rw [lc_pure (fun x => some (f x)) (fun x hx => ?_) hl]
  · simp
  · obtain ⟨l1, a, b⟩ := hf x hx
    exact ⟨l1, a, .inr ⟨_, rfl, rfl, b⟩⟩
/-- the same over coded things -/
theorem lc_pureM {α : Type} {xs : List α} {e : α → Val} {g : GM} {tt : TM} {te : EM} {l : Loc} {h : HM} (f : α → Option Val) (hf : ∀ x ∈ xs, ∃ l1, g (e x) l = some l1 ∧ ((f x = none ∧ tt l1 h = .ok false h) ∨ ∃ y, f x = some y ∧ tt l1 h = .ok true h ∧ te l1 h = .ok y h)) (hl : xs.length ≤ sizeLine) :
    lcL (srcItems (xs.map e)) g tt te l (srcItems (xs.map e)).len 0 h [] = .ok (xs.filterMap f) h := by
  have gen : ∀ (n i : Nat) (acc : List Val), i + n = xs.length → acc.length ≤ i → lcL (srcItems (xs.map e)) g tt te l n i h acc = .ok (acc ++ (xs.drop i).filterMap f) h := by
    intro n
    induction n with
    | zero =>
      intro i acc hi ha
      have : xs.drop i = [] := List.drop_eq_nil_of_le (by omega)
      simp [lcL, this, srcItems]
    | succ n ih =>
      intro i acc hi ha
      have hlt : i < xs.length := by omega
      have hg : (srcItems (xs.map e)).get i h = some (e xs[i]) := by simp [srcItems, hlt]
      have hd : xs.drop i = xs[i] :: xs.drop (i + 1) := List.drop_eq_getElem_cons hlt
      obtain ⟨l1, e1, hh⟩ := hf xs[i] (List.getElem_mem hlt)
      simp only [lcL, hg, e1]
      rcases hh with ⟨e2, e3⟩ | ⟨y, e2, e3, e4⟩
      · rw [e3]
        simp only
        rw [ih (i + 1) acc (by omega) (by omega), hd, List.filterMap_cons, e2]
      · rw [e3]
        simp only
        rw [e4]
        simp only
        rw [if_pos (by omega), ih (i + 1) (acc ++ [y]) (by omega) (by simp; omega), hd, List.filterMap_cons, e2]
        simp
  have := gen xs.length 0 [] (by omega) (Nat.le_refl _)
  rw [List.nil_append, List.drop_zero] at this
  have e2 : (srcItems (xs.map e)).len = xs.length := by simp [srcItems]
  rw [e2]
  exact this
theorem lc_mapM {α : Type} {xs : List α} {e : α → Val} {g : GM} {te : EM} {l : Loc} {h : HM} (f : α → Val) (hf : ∀ x ∈ xs, ∃ l1, g (e x) l = some l1 ∧ te l1 h = .ok (f x) h) (hl : xs.length ≤ sizeLine) :
    lcL (srcItems (xs.map e)) g tYesM te l (srcItems (xs.map e)).len 0 h [] = .ok (xs.map f) h := by
  rw [lc_pureM (fun x => some (f x)) (fun x hx => ?_) hl]
  · simp
  · obtain ⟨l1, a, b⟩ := hf x hx
    exact ⟨l1, a, .inr ⟨_, rfl, rfl, b⟩⟩
/-- the same over places -/
theorem lc_range {lo : Int} {n : Nat} {g : GM} {te : EM} {l : Loc} {h : HM} (f : Nat → Val) (hf : ∀ i, i < n → ∃ l1, g (.int (lo + (i : Nat))) l = some l1 ∧ te l1 h = .ok (f i) h) (hl : n ≤ sizeLine) :
    lcL (srcItems (intsV lo n)) g tYesM te l (srcItems (intsV lo n)).len 0 h [] = .ok ((List.range n).map f) h := by
  have gen : ∀ (k i : Nat) (acc : List Val), i + k = n → acc.length = i → lcL (srcItems (intsV lo n)) g tYesM te l k i h acc = .ok (acc ++ ((List.range n).drop i).map f) h := by
    intro k
    induction k with
    | zero =>
      intro i acc hi ha
      have : (List.range n).drop i = [] := List.drop_eq_nil_of_le (by simp; omega)
      simp [lcL, this, srcItems]
    | succ k ih =>
      intro i acc hi ha
      have hlt : i < n := by omega
      have hg : (srcItems (intsV lo n)).get i h = some (.int (lo + (i : Nat))) := by simp [srcItems, intsV, hlt]
      have hd : (List.range n).drop i = i :: (List.range n).drop (i + 1) := by
        rw [List.drop_eq_getElem_cons (by simpa using hlt)]; simp
      obtain ⟨l1, e1, e2⟩ := hf i hlt
      simp only [lcL, hg, e1, tYesM, e2]
      rw [if_pos (by omega), ih (i + 1) _ (by omega) (by simp [ha]), hd]
      simp
  have := gen n 0 [] (by omega) rfl
  have e : (srcItems (intsV lo n)).len = n := by simp [srcItems, intsV]
  rw [e]
  simpa using this
/-- a loop with an invariant, that goes through -/
theorem for_inv {xs : List Val} {g : GM} {b : SM} {l : Loc} {h : HM} (I : Nat → Loc → HM → Prop) (h0 : I 0 l h)
    (hs : ∀ i x l h, xs[i]? = some x → I i l h → ∃ l1 l2 h2, g x l = some l1 ∧ b l1 h = .nx l2 h2 ∧ I (i + 1) l2 h2) :
    ∃ l' h', forL (srcItems xs) g b (srcItems xs).len 0 l h = .nx l' h' ∧ I xs.length l' h' := by
  have gen : ∀ (n i : Nat) (l : Loc) (h : HM), i + n = xs.length → I i l h → ∃ l' h', forL (srcItems xs) g b n i l h = .nx l' h' ∧ I xs.length l' h' := by
    intro n
    induction n with
    | zero =>
      intro i l h hi hI
      have : i = xs.length := by omega
      subst this
      exact ⟨l, h, by simp [forL, srcItems], hI⟩
    | succ n ih =>
      intro i l h hi hI
      have hlt : i < xs.length := by omega
      have hg : (srcItems xs).get i h = some xs[i] := by simp [srcItems, hlt]
      obtain ⟨l1, l2, h2, e1, e2, hI2⟩ := hs i xs[i] l h (by simp [hlt]) hI
      simp only [forL, hg, e1, e2]
      exact ih (i + 1) l2 h2 (by omega) hI2
  exact gen xs.length 0 l h (by omega) h0
end MM
namespace MM
open PySem L2
def m_law_cell : FM := mF 2 (sSeq (sIf (tOf (e2 vLt (eVar 1) (eBi bLen (aCons (eVar 0) (aNil))))) (sRet (e2 vIx (eVar 0) (eVar 1))) (sNil))
  (sRet (eC (.int 0))))
def m_law_mix : FM := mF 3 (sRet (e2 vMod (e2 vMod (e2 vMul (eVar 0) (eC (.int 48271))) (eVar 1)) (eVar 2)))
def m_law_name : FM := mF 4 (sSeq (sAsg (eC (.str "abcdefghijklmnopqrstuvwxyz")) (gNm 1))
  (sSeq (sAsg (e2 vAdd (eC (.int 1)) (eCall m_law_mix (aCons (eVar 0) (aCons (eC (.int 9973)) (aCons (eC (.int 6)) (aNil)))))) (gNm 2))
  (sSeq (sIf (tOf (e2 vEq (e2 vMod (eVar 0) (eC (.int 3))) (eC (.int 0)))) (sSeq (sAsg (eC (.str "ab")) (gNm 1))
  (sAsg (e2 vAdd (eC (.int 1)) (e2 vMod (eVar 2) (eC (.int 2)))) (gNm 2))) (sNil))
  (sRet (eBm .str mJoin (eC (.str "")) (aCons (eLc (iArgs rng1 (aCons (eVar 2) (aNil))) (gNm 3) (tYesM) (e2 vIx (eVar 1) (eCall m_law_mix (aCons (e2 vAdd (eVar 0) (e2 vMul (eC (.int 7)) (eVar 3))) (aCons (eC (.int 9967)) (aCons (eBi bLen (aCons (eVar 1) (aNil))) (aNil)))))) [3] frozen) (aNil)))))))
def m_law_text : FM := mF 4 (sSeq (sAsg (eC (.str " !\"#$&'()*+,-./0123456789:;<=>?\x40ABCDEFGHIJKLMNOPQRSTUVWXYZ[\\]^_`abcdefghijklmnopqrstuvwxyz{|}~")) (gNm 1))
  (sSeq (sAsg (eCall m_law_mix (aCons (eVar 0) (aCons (eC (.int 9949)) (aCons (eC (.int 5)) (aNil))))) (gNm 2))
  (sSeq (sIf (tOf (e2 vEq (eCall m_law_mix (aCons (eVar 0) (aCons (eC (.int 9941)) (aCons (eC (.int 9)) (aNil))))) (eC (.int 0)))) (sAsg (eC (.int 60)) (gNm 2)) (sNil))
  (sSeq (sIf (tOf (e2 vEq (eCall m_law_mix (aCons (eVar 0) (aCons (eC (.int 9941)) (aCons (eC (.int 9)) (aNil))))) (eC (.int 1)))) (sAsg (eCall m_law_mix (aCons (eVar 0) (aCons (eC (.int 9931)) (aCons (eC (.int 61)) (aNil))))) (gNm 2)) (sNil))
  (sSeq (sIf (tOf (e2 vEq (e2 vMod (eVar 0) (eC (.int 4))) (eC (.int 0)))) (sRet (e2 vIx (eDisp mkTup (aCons (eC (.str "")) (aCons (eC (.str "a")) (aCons (eC (.str "hi;")) (aNil))))) (eCall m_law_mix (aCons (eVar 0) (aCons (eC (.int 9929)) (aCons (eC (.int 3)) (aNil))))))) (sNil))
  (sRet (eBm .str mJoin (eC (.str "")) (aCons (eLc (iArgs rng1 (aCons (eVar 2) (aNil))) (gNm 3) (tYesM) (e2 vIx (eVar 1) (eCall m_law_mix (aCons (e2 vAdd (eVar 0) (e2 vMul (eC (.int 7)) (eVar 3))) (aCons (eC (.int 9923)) (aCons (eBi bLen (aCons (eVar 1) (aNil))) (aNil)))))) [3] frozen) (aNil)))))))))
def m_is_text : FM := mF 1 (sRet (eAndM (eBi bIsi (aCons (eVar 0) (aCons (eC (.ty "str")) (aNil)))) (e2 vLe (eBi bLen (aCons (eVar 0) (aNil))) (eC (.int 60)))))
def m_is_name : FM := mF 2 (sRet (eAndM (eBi bIsi (aCons (eVar 0) (aCons (eC (.ty "str")) (aNil)))) (eAndM (eChM vLe vLe (eC (.int 1)) (eBi bLen (aCons (eVar 0) (aNil))) (eC (.int 6))) (eBi bAll (aCons (eLc (iVal (eVar 0)) (gNm 1) (tYesM) (e2 vIn (eVar 1) (eC (.str "abcdefghijklmnopqrstuvwxyz"))) [1] frozen) (aNil))))))
def cell (ns : List Int) (k : Int) : Int := if k < ns.length then (atI ns k).getD 0 else 0
def mix (c p m : Int) : Int := c * 48271 % p % m
theorem mix_nn {c p m : Int} (hm : 0 < m) : 0 ≤ mix c p m := Int.emod_nonneg _ (by omega)
theorem mix_lt {c p m : Int} (hm : 0 < m) : mix c p m < m := Int.emod_lt_of_pos _ hm
@[simp] theorem at_cell {ns : List Int} {k : Nat} {h : HM} : m_law_cell [.scr ns, .int (k : Nat)] h = .ok (.int (cell ns k)) h := by
  simp only [m_law_cell, mF]
  simp
  by_cases hk : k < ns.length
  · have : (k : Int) < ns.length := by omega
    have e : atI ns (k : Int) = some ns[k] := by
      simp [L2.atI, L2.ixN, hk]
    simp [hk, cell, vIx, e, ofO]
  · simp [hk, cell]
theorem mix_mul {c : Int} {h : HM} : vMul (.int c) (.int 48271) h = .ok (.int (c * 48271)) h := ev_mulI (.inr (by decide))
theorem at_mix {c p m : Int} {h : HM} (hp : 0 < p) (hm : 0 < m) : m_law_mix [.int c, .int p, .int m] h = .ok (.int (mix c p m)) h := by
  simp [m_law_mix, mF, mix_mul, ev_modI hp, ev_modI hm, mix]
def sg (l : List Nat) : Str := ⟨l.toArray⟩
@[simp] theorem sg_len (l : List Nat) : (sg l).length = l.length := by simp [sg, Str.length]
@[simp] theorem sg_list (l : List Nat) : (sg l).cps.toList = l := by simp [sg]
theorem sg_of (x : Str) : x = sg x.cps.toList := by cases x; simp [sg]
@[simp] theorem sg_app (a b : List Nat) : sg a ++ sg b = sg (a ++ b) := by
  show Str.append _ _ = _
  simp [Str.append, sg]
theorem sg_inj {a b : List Nat} (h : sg a = sg b) : a = b := by
  have := congrArg (fun x : Str => x.cps.toList) h
  simpa using this
@[simp] theorem sg_eq {a b : List Nat} : sg a = sg b ↔ a = b := ⟨sg_inj, fun h => h ▸ rfl⟩
theorem sg_one (c : Nat) : (⟨#[c]⟩ : Str) = sg [c] := rfl
def pick (L : List Nat) (i : Int) : Nat := (L[i.toNat]?).getD 0
theorem pick_mem {L : List Nat} {i : Int} (h0 : 0 ≤ i) (h1 : i < L.length) : pick L i ∈ L := by
  have : i.toNat < L.length := by omega
  simp [pick, this]
theorem ix_str {L : List Nat} {i : Int} {h : HM} (hz : L.length ≤ 16777216) (h0 : 0 ≤ i) (h1 : i < L.length) : vIx (.str (sg L)) (.int i) h = .ok (.str (sg [pick L i])) h := by
  have hl : i.toNat < L.length := by omega
  have e : atI L i = some L[i.toNat] := by simp [L2.atI, L2.ixN, h0, h1, hl]
  have hz' : (sg L).length ≤ sizeLine := by rw [sg_len, sizeLine_eq]; exact hz
  simp only [vIx, if_pos hz', sg_list, e, pick]
  simp [ofO, hl, sg_one]
theorem strsOf_map (xs : List Str) : strsOf (xs.map Val.str) = some xs := by
  induction xs with
  | nil => rfl
  | cons x xs ih => simp [strsOf, ih]
theorem join_signs (cs : List Nat) : Txt.join (sg []) (cs.map fun c => sg [c]) = sg cs := by
  show Builtin.Str.glued _ _ = _
  rw [StrLaws.glued_eq_join]
  induction cs with
  | nil => rfl
  | cons c cs ih =>
    cases cs with
    | nil => rfl
    | cons d cs =>
      show sg [c] ++ sg [] ++ Str.join (sg []) ((d :: cs).map fun c => sg [c]) = _
      rw [ih]
      simp
/-- the join of a comprehension's signs -/
theorem join_ok {cs : List Nat} {h : HM} (hz : cs.length ≤ 16777216) : mJoin (.str (sg [])) [.lst (cs.map fun c => .str (sg [c]))] h = .ok (.str (sg cs)) h := by
  have e : (cs.map fun c => Val.str (sg [c])) = (cs.map fun c => sg [c]).map Val.str := by simp
  have hs : ((cs.map fun c => sg [c]).map (·.length)).sum = cs.length := by
    clear hz e
    induction cs with
    | nil => rfl
    | cons c cs ih => simp only [List.map_cons, List.sum_cons, ih]; simp; omega
  simp only [mJoin, seqL, Option.bind_some, e, strsOf_map]
  rw [if_pos (by rw [hs]; simp; exact hz), join_signs]
def lets : List Nat := [97, 98, 99, 100, 101, 102, 103, 104, 105, 106, 107, 108, 109, 110, 111, 112, 113, 114, 115, 116, 117, 118, 119, 120, 121, 122]
theorem lets_eq : Str.ofString "abcdefghijklmnopqrstuvwxyz" = sg lets := by decide +kernel
theorem ab_eq : Str.ofString "ab" = sg [97, 98] := by decide +kernel
theorem none_eq : Str.ofString "" = sg [] := by decide +kernel
/-- drawn signs of L -/
def drawn (L : List Nat) (c p : Int) (n : Nat) : List Nat := (List.range n).map fun (k : Nat) => pick L (mix (c + 7 * (k : Nat)) p L.length)
@[simp] theorem drawn_len {L : List Nat} {c p : Int} {n : Nat} : (drawn L c p n).length = n := by simp [drawn]
theorem drawn_mem {L : List Nat} {c p : Int} {n x : Nat} (hL : 0 < L.length) (h : x ∈ drawn L c p n) : x ∈ L := by
  simp only [drawn, List.mem_map] at h
  obtain ⟨k, _, rfl⟩ := h
  exact pick_mem (mix_nn (by omega)) (mix_lt (by omega))
def nameL (c : Int) : List Nat := if c % 3 = 0 then [97, 98] else lets
def nameN (c : Int) : Int := if c % 3 = 0 then 1 + (1 + mix c 9973 6) % 2 else 1 + mix c 9973 6
def lname (c : Int) : List Nat := drawn (nameL c) c 9967 (nameN c).toNat
/-- the drawn join of a name or a text -/
theorem at_drawn {L : List Nat} {c p j : Int} {l : Loc} {h : HM} {te : EM} {g : GM} (hL : 0 < L.length) (hL2 : L.length ≤ 16777216) (hj : 0 ≤ j) (hj2 : j ≤ 1000) (hp : 0 < p)
    (hg : ∀ k : Nat, ∃ l1, g (.int (k : Nat)) l = some l1 ∧ te l1 h = (m_law_mix [.int (c + 7 * (k : Nat)), .int p, .int L.length] h).bind fun y h2 => vIx (.str (sg L)) y h2) :
    lcL (srcItems (intsV 0 j.toNat)) g tYesM te l (srcItems (intsV 0 j.toNat)).len 0 h [] = .ok ((drawn L c p j.toNat).map fun c => .str (sg [c])) h := by
  rw [lc_range (fun k => .str (sg [pick L (mix (c + 7 * (k : Nat)) p L.length)])) (fun i hi => ?_) (by rw [sizeLine_eq]; omega)]
  · simp [drawn]
  · obtain ⟨l1, e1, e2⟩ := hg i
    refine ⟨l1, by rw [Int.zero_add]; exact e1, ?_⟩
    rw [e2, at_mix hp (by omega)]
    simp only [Res.bind_ok]
    exact ix_str hL2 (mix_nn (by omega)) (mix_lt (by omega))
theorem nameN_pos (c : Int) : 1 ≤ nameN c ∧ nameN c ≤ 6 := by
  unfold nameN
  have h1 := mix_nn (c := c) (p := 9973) (m := 6) (by decide)
  have h2 := mix_lt (c := c) (p := 9973) (m := 6) (by decide)
  split <;> omega
/-- the drawn join of a name or a text, wholly: j, the text's slots as they stand there -/
theorem at_drawnJ {L : List Nat} {c p j : Int} {x : Option Val} {h : HM} (hL : 0 < L.length) (hL2 : L.length ≤ 16777216) (hj : 0 ≤ j) (hj2 : j ≤ 1000) (hp : 0 < p) :
    (eBm .str mJoin (eC (.str (sg []))) (aCons (eLc (iArgs rng1 (aCons (eVar 2) (aNil))) (gNm 3) (tYesM) (e2 vIx (eVar 1) (eCall m_law_mix (aCons (e2 vAdd (eVar 0) (e2 vMul (eC (.int 7)) (eVar 3))) (aCons (eC (.int p)) (aCons (eBi bLen (aCons (eVar 1) (aNil))) (aNil)))))) [3] frozen) (aNil)))
      [some (.int c), some (.str (sg L)), some (.int j), x] h = .ok (.str (sg (drawn L c p j.toNat))) h := by
  have h7 : ∀ (k : Int) (h : HM), vMul (.int 7) (.int k) h = .ok (.int (7 * k)) h := fun k h => ev_mulI (.inl (by decide))
  have hl : ∀ h : HM, bLen [.str (sg L)] h = .ok (.int L.length) h := fun h => by rw [ev_lenS (by rw [sizeLine_eq, sg_len]; exact hL2), sg_len]
  simp only [ev_eBm, ev_C, Res.bind_ok, ev_kdS, if_true, ev_aCons, ev_eLc, ev_iArgs, ev_VarS, ev_Var0, ev_aNil]
  rw [ev_rng1 (by omega)]
  simp only [Res.bind_ok]
  rw [at_drawn (L := L) (c := c) (p := p) hL hL2 hj hj2 hp (fun k => ⟨_, rfl, by simp [h7, hl, wipeL]⟩)]
  simp only [Res.bind_ok, ev_frozen]
  exact join_ok (by simp; omega)
theorem at_name {c : Int} {h : HM} : m_law_name [.int c] h = .ok (.str (sg (lname c))) h := by
  have hn := nameN_pos c
  unfold m_law_name mF
  rw [lets_eq, ab_eq, none_eq]
  by_cases hc : c % 3 = 0
  · have e : nameN c = 1 + (1 + mix c 9973 6) % 2 := if_pos hc
    have e2 : nameL c = [97, 98] := if_pos hc
    simp [at_mix, ev_modI, hc, -ev_eBm]
    rw [at_drawnJ (by decide) (by decide) (by omega) (by omega) (by decide)]
    simp [lname, e, e2]
  · have e : nameN c = 1 + mix c 9973 6 := if_neg hc
    have e2 : nameL c = lets := if_neg hc
    simp [at_mix, ev_modI, hc, -ev_eBm]
    rw [at_drawnJ (by decide) (by decide) (by omega) (by omega) (by decide)]
    simp [lname, e, e2]
theorem lname_len (c : Int) : 1 ≤ (lname c).length ∧ (lname c).length ≤ 6 := by
  have := nameN_pos c
  simp [lname]; omega
theorem lname_mem {c : Int} {x : Nat} (h : x ∈ lname c) : x ∈ lets := by
  have := drawn_mem (by unfold nameL; split <;> decide) h
  unfold nameL at this
  split at this
  · simp [lets] at this ⊢; omega
  · exact this
def signsT : List Nat := ((List.range 95).map (· + 32)).filter (· != 37)
theorem signsT_eq : Str.ofString " !\"#$&'()*+,-./0123456789:;<=>?\x40ABCDEFGHIJKLMNOPQRSTUVWXYZ[\\]^_`abcdefghijklmnopqrstuvwxyz{|}~" = sg signsT := by decide +kernel
def textN (c : Int) : Int := if mix c 9941 9 = 1 then mix c 9931 61 else if mix c 9941 9 = 0 then 60 else mix c 9949 5
def ltext (c : Int) : List Nat := if c % 4 = 0 then (match mix c 9929 3 with | 0 => [] | 1 => [97] | _ => [104, 105, 59]) else drawn signsT c 9923 (textN c).toNat
theorem textN_ok (c : Int) : 0 ≤ textN c ∧ textN c ≤ 60 := by
  unfold textN
  have h1 := mix_nn (c := c) (p := 9931) (m := 61) (by decide)
  have h2 := mix_lt (c := c) (p := 9931) (m := 61) (by decide)
  have h3 := mix_nn (c := c) (p := 9949) (m := 5) (by decide)
  have h4 := mix_lt (c := c) (p := 9949) (m := 5) (by decide)
  split
  · omega
  · split <;> omega
theorem atI_nat {α : Type} {xs : List α} {i : Int} (h0 : 0 ≤ i) : atI xs i = xs[i.toNat]? := by
  unfold L2.atI L2.ixN
  by_cases h : i < xs.length
  · simp [h0, h]
  · have : xs.length ≤ i.toNat := by omega
    simp [h0, h, this]
theorem at_text {c : Int} {h : HM} : m_law_text [.int c] h = .ok (.str (sg (ltext c))) h := by
  have hn := textN_ok c
  have m3 := mix_nn (c := c) (p := 9929) (m := 3) (by decide)
  have m4 := mix_lt (c := c) (p := 9929) (m := 3) (by decide)
  unfold m_law_text mF
  rw [signsT_eq, none_eq]
  have e : textN c = if mix c 9941 9 = 1 then mix c 9931 61 else if mix c 9941 9 = 0 then 60 else mix c 9949 5 := rfl
  by_cases hc : c % 4 = 0
  · have fin : ∀ h : HM, vIx (.tup [.str (sg []), .str (Str.ofString "a"), .str (Str.ofString "hi;")]) (.int (mix c 9929 3)) h = .ok (.str (sg (ltext c))) h := fun h => by
      have e1 : Str.ofString "a" = sg [97] := by decide +kernel
      have e2 : Str.ofString "hi;" = sg [104, 105, 59] := by decide +kernel
      rw [e1, e2]
      have : mix c 9929 3 = 0 ∨ mix c 9929 3 = 1 ∨ mix c 9929 3 = 2 := by omega
      unfold ltext
      rcases this with z | z | z <;> simp [vIx, z, hc, atI_nat, ofO]
    by_cases h0 : mix c 9941 9 = 0
    · simp [at_mix, ev_modI, hc, h0, ev_mkTup, fin]
    · by_cases h1 : mix c 9941 9 = 1
      · simp [at_mix, ev_modI, hc, h0, h1, ev_mkTup, fin]
      · simp [at_mix, ev_modI, hc, h0, h1, ev_mkTup, fin]
  · have fin : ∀ n, textN c = n → sg (ltext c) = sg (drawn signsT c 9923 n.toNat) := fun n e => by rw [← e]; simp [ltext, hc]
    by_cases h0 : mix c 9941 9 = 0
    · simp [h0] at e
      simp [at_mix, ev_modI, hc, h0, -ev_eBm]
      rw [at_drawnJ (by decide) (by decide) (by omega) (by omega) (by decide), fin _ e]
      simp
    · by_cases h1 : mix c 9941 9 = 1
      · simp [h1] at e
        simp [at_mix, ev_modI, hc, h0, h1, -ev_eBm]
        rw [at_drawnJ (by decide) (by decide) (by omega) (by omega) (by decide), fin _ e]
        simp
      · simp [h1, h0] at e
        simp [at_mix, ev_modI, hc, h0, h1, -ev_eBm]
        rw [at_drawnJ (by decide) (by decide) (by omega) (by omega) (by decide), fin _ e]
        simp
theorem ltext_len (c : Int) : (ltext c).length ≤ 60 := by
  have := textN_ok c
  unfold ltext
  split
  · split <;> simp
  · simp; omega
def isText (v : Val) : Bool := match v with
  | .str x => decide (x.length ≤ 60)
  | _ => false
def isName (v : Val) : Bool := match v with
  | .str x => decide (1 ≤ x.length ∧ x.length ≤ 6) && x.cps.toList.all fun c => decide (c ∈ lets)
  | _ => false
/-- a value that isinstance can be asked of, a text not too long -/
def isAsk (v : Val) (h : HM) : Bool := (tyN v h).isSome && match v with
  | .str x => decide (x.length ≤ sizeLine)
  | _ => true
theorem isi_str {v : Val} {h : HM} (ha : (tyN v h).isSome = true) : bIsi [v, .ty "str"] h = .ok (.bl (match v with | .str _ => true | _ => false)) h := by
  have k : ∀ t : String, t ∈ ["NoneType", "bool", "int", "tuple", "list", "dict"] → kitB t "str" = some false := by decide +kernel
  have ks : kitB "str" "str" = some true := by decide +kernel
  cases v with
  | str x => simp [bIsi, tyN, ks]
  | ref n =>
    simp only [tyN] at ha
    simp only [bIsi, tyN]
    split at ha <;> first | (cases ha; done) | simp_all
  | non => simp [bIsi, tyN, k]
  | bl b => simp [bIsi, tyN, k]
  | int b => simp [bIsi, tyN, k]
  | tup b => simp [bIsi, tyN, k]
  | ptup b => simp [bIsi, tyN, k]
  | lst b => simp [bIsi, tyN, k]
  | _ => cases ha
theorem at_isText {v : Val} {h : HM} (ha : isAsk v h = true) : m_is_text [v] h = .ok (.bl (isText v)) h := by
  simp only [isAsk, Bool.and_eq_true] at ha
  obtain ⟨h1, h2⟩ := ha
  simp [m_is_text, mF, isi_str h1]
  cases v with
  | str x =>
    simp at h2
    simp [ev_lenS h2, isText]
    omega
  | _ => simp [isText]
theorem boolsOf_map (xs : List Bool) : boolsOf (xs.map Val.bl) = some xs := by
  induction xs with
  | nil => rfl
  | cons x xs ih => simp [boolsOf, ih]
theorem all_ok {α : Type} {xs : List α} {f : α → Bool} {h : HM} : bAll [.lst (xs.map fun x => .bl (f x))] h = .ok (.bl (xs.all f)) h := by
  have e : (xs.map fun x => Val.bl (f x)) = (xs.map f).map Val.bl := by simp
  simp only [bAll, seqL, Option.bind_some, e, boolsOf_map]
  simp [Function.comp_def]
theorem any_ok {α : Type} {xs : List α} {f : α → Bool} {h : HM} : bAny [.lst (xs.map fun x => .bl (f x))] h = .ok (.bl (xs.any f)) h := by
  have e : (xs.map fun x => Val.bl (f x)) = (xs.map f).map Val.bl := by simp
  simp only [bAny, seqL, Option.bind_some, e, boolsOf_map]
  simp [Function.comp_def]
theorem signs_map (x : List Nat) : signs (sg x) = x.map fun c => .str (sg [c]) := by simp [signs, sg_one]
@[simp] theorem in_sign {c : Nat} {L : List Nat} {h : HM} : vIn (.str (sg [c])) (.str (sg L)) h = .ok (.bl (decide (c ∈ L))) h := by
  simp [vIn, inB, inStr]
@[simp] theorem notIn_sign {c : Nat} {L : List Nat} {h : HM} : vNotIn (.str (sg [c])) (.str (sg L)) h = .ok (.bl (!decide (c ∈ L))) h := by
  simp [vNotIn, inB, inStr]
theorem at_isName {v : Val} {h : HM} (ha : isAsk v h = true) : m_is_name [v] h = .ok (.bl (isName v)) h := by
  simp only [isAsk, Bool.and_eq_true] at ha
  obtain ⟨h1, h2⟩ := ha
  unfold m_is_name mF
  rw [lets_eq]
  simp [isi_str h1]
  cases v with
  | str x =>
    simp at h2
    rw [sg_of x] at h2 ⊢
    generalize x.cps.toList = y at h2
    have h2' : y.length ≤ sizeLine := by simpa using h2
    simp [ev_lenS h2, srcOf]
    by_cases h3 : 1 ≤ y.length
    · have h3' : (1 : Int) ≤ y.length := by omega
      by_cases h4 : y.length ≤ 6
      · have h4' : (y.length : Int) ≤ 6 := by omega
        simp [h3', h4', isName, h3, h4]
        rw [signs_map, lc_map (f := fun v => match v with | .str z => .bl (decide (pick z.cps.toList 0 ∈ lets)) | _ => .non) (fun v hv => ?_) (by simpa using h2')]
        · simp only [Res.bind_ok, List.map_map, ev_frozen]
          simp [Function.comp_def, pick, all_ok, sg]
        · simp only [List.mem_map] at hv
          obtain ⟨c, _, rfl⟩ := hv
          exact ⟨_, rfl, by simp [wipeL, pick]⟩
      · have h4' : ¬ (y.length : Int) ≤ 6 := by omega
        simp [h3', h4', isName, h4]
    · have h3' : ¬ (1 : Int) ≤ y.length := by omega
      have h5 : y.length = 0 := by omega
      have h6 : ¬ 0 < (y.length : Int) := by omega
      simp [h3', isName, h3, h5, h6]
  | _ => simp [isName]
theorem cut_sg {x : List Nat} {lo hi : Option Int} : cutS (sg x) lo hi = sg (cutL x lo hi) := by
  unfold cutS cutL
  rw [sg_len, sg_list]
  rfl
theorem sl_sg {x : List Nat} {lo hi : Option Int} {h : HM} (hz : x.length ≤ 16777216) : vSl (.str (sg x)) lo hi h = .ok (.str (sg (cutL x lo hi))) h := by
  simp only [vSl]
  rw [if_pos (by rw [sizeLine_eq, sg_len]; exact hz), cut_sg]
theorem cutL_to {α : Type} {x : List α} {n : Int} (hn : 0 ≤ n) : cutL x none (some n) = x.take n.toNat := by
  have h1 : ¬ n < 0 := by omega
  simp only [cutL, HT.sIx, h1, if_false, List.drop_zero, Nat.sub_zero]
  rw [Nat.min_def]
  split
  · rfl
  · rw [List.take_of_length_le (Nat.le_refl _), List.take_of_length_le (by omega)]
theorem cutL_from {α : Type} {x : List α} {n : Int} (hn : 0 ≤ n) : cutL x (some n) none = x.drop n.toNat := by
  have h1 : ¬ n < 0 := by omega
  simp only [cutL, HT.sIx, h1, if_false]
  rw [Nat.min_def]
  split
  · rw [List.take_of_length_le]; simp
  · rw [List.drop_eq_nil_of_le (by omega), List.drop_eq_nil_of_le (by omega)]; simp
theorem addS {x y : List Nat} {h : HM} (hz : x.length + y.length ≤ 16777216) : vAdd (.str (sg x)) (.str (sg y)) h = .ok (.str (sg (x ++ y))) h := by
  simp only [vAdd]
  rw [if_pos (by rw [sizeLine_eq, sg_len, sg_len]; exact hz), sg_app]
@[simp] theorem isText_sg {x : List Nat} : isText (.str (sg x)) = decide (x.length ≤ 60) := by simp [isText]
@[simp] theorem isName_sg {x : List Nat} : isName (.str (sg x)) = (decide (1 ≤ x.length ∧ x.length ≤ 6) && x.all fun c => decide (c ∈ lets)) := by simp [isName]
theorem lenSg {x : List Nat} {h : HM} (hz : x.length ≤ 16777216) : bLen [.str (sg x)] h = .ok (.int x.length) h := by rw [ev_lenS (by rw [sizeLine_eq, sg_len]; exact hz), sg_len]
theorem at_cell' {ns : List Int} {k : Int} {h : HM} (hk : 0 ≤ k) : m_law_cell [.scr ns, .int k] h = .ok (.int (cell ns k)) h := by
  obtain ⟨n, rfl⟩ := Int.eq_ofNat_of_zero_le hk
  exact at_cell
end MM
namespace MM
open PySem L2
def m_law_known_f0 : SM := sSeq (sAsg (eCall m_law_mix (aCons (e2 vAdd (eVar 0) (e2 vMul (eC (.int 31)) (eVar 3))) (aCons (eC (.int 9907)) (aCons (eC (.int 3)) (aNil))))) (gNm 4))
  (sSeq (sIf (tOf (e2 vEq (eVar 3) (e2 vIx (eVar 1) (eC (.int 0))))) (sAsg (e2 vAdd (eVar 4) (e2 vIx (eVar 1) (eC (.int 1)))) (gNm 4)) (sNil))
  (sIf (tOf (e2 vGt (eVar 4) (eC (.int 0)))) (sDrop (eBm .list mAppend (eVar 2) (aCons (eDisp mkTup (aCons (eVar 3) (aCons (eVar 4) (aNil)))) (aNil)))) (sNil)))
def m_law_known : FM := mF 5 (sSeq (sAsg (eDisp mkRef (aNil)) (gNm 2))
  (sSeq (sFor (iArgs rng1 (aCons (eC (.int 6)) (aNil))) (gNm 3) m_law_known_f0)
  (sRet (eBi bTupleP (aCons (eVar 2) (aNil))))))
def m_law_which : FM := mF 1 (sRet (eDisp mkTup (aCons (eCall m_law_mix (aCons (eVar 0) (aCons (eC (.int 9871)) (aCons (eC (.int 6)) (aNil))))) (aCons (e2 vAdd (e2 vAdd (eC (.int 1)) (eCall m_law_mix (aCons (eVar 0) (aCons (eC (.int 9859)) (aCons (eC (.int 4)) (aNil)))))) (e2 vMul (eC (.int 9)) (e2 vMod (eVar 0) (eC (.int 2))))) (aNil)))))
def m_law_same : Nat → FM
  | 0 => fun _ _ => .bad
  | d + 1 => mF 4 (sSeq (sIf (tTru (eBi bIsi (aCons (eVar 1) (aCons (eC (.ty "tuple")) (aNil))))) (sSeq (sIf (tOrM (tNotM (tTru (eBi bIsi (aCons (eVar 0) (aCons (eC (.ty "tuple")) (aNil)))))) (tOf (e2 vNe (eBi bLen (aCons (eVar 0) (aNil))) (eBi bLen (aCons (eVar 1) (aNil)))))) (sRet (eC (.bl false))) (sNil))
  (sRet (eBi bAll (aCons (eLc (iArgs zip2 (aCons (eVar 0) (aCons (eVar 1) (aNil)))) (gTp 2 (gsCons (gNm 2) (gsCons (gNm 3) (gsNil)))) (tYesM) (eCall (m_law_same d) (aCons (eVar 2) (aCons (eVar 3) (aNil)))) [2, 3] frozen) (aNil))))) (sNil))
  (sSeq (sIf (tOf (e2 vIs (eVar 1) (eC .non))) (sRet (e2 vIs (eVar 0) (eC .non))) (sNil))
  (sSeq (sIf (tOrM (tTru (eBi bIsi (aCons (eVar 1) (aCons (eC (.ty "bool")) (aNil))))) (tTru (eBi bIsi (aCons (eVar 0) (aCons (eC (.ty "bool")) (aNil)))))) (sRet (eAndM (eBi bIsi (aCons (eVar 1) (aCons (eC (.ty "bool")) (aNil)))) (eAndM (eBi bIsi (aCons (eVar 0) (aCons (eC (.ty "bool")) (aNil)))) (e2 vEq (eVar 0) (eVar 1))))) (sNil))
  (sRet (eAndM (eBi bIsi (aCons (eVar 0) (aCons (eDisp mkTup (aCons (eC (.ty "int")) (aCons (eC (.ty "str")) (aNil)))) (aNil)))) (e2 vEq (eVar 0) (eVar 1)))))))
def m_is_within : FM := mF 4 (sRet (eBi bAny (aCons (eLc (iVal (eVar 1)) (gTp 2 (gsCons (gNm 2) (gsCons (gNm 3) (gsNil)))) (tYesM) (eAndM (e2 vEq (eVar 2) (e2 vIx (eVar 0) (eC (.int 0)))) (e2 vGe (eVar 3) (e2 vIx (eVar 0) (eC (.int 1))))) [2, 3] frozen) (aNil))))
def m_has_heard : FM := mF 3 (sRet (eBi bAll (aCons (eLc (iVal (eVar 1)) (gNm 2) (tYesM) (eCall m_is_within (aCons (eVar 2) (aCons (eVar 0) (aNil)))) [2] frozen) (aNil))))
theorem isi_of {v : Val} {t u : String} {b : Bool} {h : HM} (e : tyN v h = some t) (k : kitB t u = some b) : bIsi [v, .ty u] h = .ok (.bl b) h := by simp [bIsi, e, k]
theorem isi2_of {v : Val} {t u w : String} {b c : Bool} {h : HM} (e : tyN v h = some t) (k : kitB t u = some b) (k2 : kitB t w = some c) : bIsi [v, .tup [.ty u, .ty w]] h = .ok (.bl (b || c)) h := by simp [bIsi, e, k, k2]
def tyTab (t u : String) : Bool := t == u || (t == "bool" && u == "int")
theorem kit_tab : ∀ t ∈ ["NoneType", "bool", "int", "str", "tuple", "list", "dict"], ∀ u ∈ ["bool", "int", "str", "tuple", "list"], kitB t u = some (tyTab t u) := by decide +kernel
/-- values that are asked of -/
def tyV (v : Val) : String := match v with
  | .non => "NoneType"
  | .bl _ => "bool"
  | .int _ => "int"
  | .str _ => "str"
  | .tup _ => "tuple"
  | .ptup _ => "tuple"
  | .lst _ => "list"
  | _ => ""
def isV (v : Val) : Bool := match v with
  | .non => true
  | .bl _ => true
  | .int _ => true
  | .str _ => true
  | .tup _ => true
  | .ptup _ => true
  | .lst _ => true
  | _ => false
theorem isi_tab {v : Val} {u : String} {h : HM} (hv : isV v = true) (hu : u ∈ ["bool", "int", "str", "tuple", "list"]) : bIsi [v, .ty u] h = .ok (.bl (tyTab (tyV v) u)) h := by
  have e : tyN v h = some (tyV v) := by cases v <;> first | rfl | cases hv
  have m : tyV v ∈ ["NoneType", "bool", "int", "str", "tuple", "list", "dict"] := by cases v <;> first | (simp [tyV]; done) | cases hv
  exact isi_of e (kit_tab _ m _ hu)
theorem isi2_tab {v : Val} {u w : String} {h : HM} (hv : isV v = true) (hu : u ∈ ["bool", "int", "str", "tuple", "list"]) (hw : w ∈ ["bool", "int", "str", "tuple", "list"]) : bIsi [v, .tup [.ty u, .ty w]] h = .ok (.bl (tyTab (tyV v) u || tyTab (tyV v) w)) h := by
  have e : tyN v h = some (tyV v) := by cases v <;> first | rfl | cases hv
  have m : tyV v ∈ ["NoneType", "bool", "int", "str", "tuple", "list", "dict"] := by cases v <;> first | (simp [tyV]; done) | cases hv
  exact isi2_of e (kit_tab _ m _ hu) (kit_tab _ m _ hw)
mutual
def sameB : Val → Val → Bool
  | f, .tup ds => (match tupL f with
    | some fs => sameBs fs ds
    | none => false)
  | f, .ptup ds => (match tupL f with
    | some fs => sameBs fs ds
    | none => false)
  | f, .non => (match f with
    | .non => true
    | _ => false)
  | f, .bl b => (match f with
    | .bl a => decide (a = b)
    | _ => false)
  | f, .int b => (match f with
    | .int a => decide (a = b)
    | _ => false)
  | f, .str b => (match f with
    | .str a => decide (a = b)
    | _ => false)
  | _, _ => false
def sameBs : List Val → List Val → Bool
  | [], [] => true
  | f :: fs, d :: ds => sameB f d && sameBs fs ds
  | _, _ => false
end
/-- tuples (to a depth), none, truths, ints, texts -/
def pl : Nat → Val → Bool
  | _, .non => true
  | _, .bl _ => true
  | _, .int _ => true
  | _, .str x => PyData.strOk x
  | d + 1, .tup xs => decide (xs.length ≤ 1000000) && xs.all (pl d)
  | d + 1, .ptup xs => decide (xs.length ≤ 1000000) && xs.all (pl d)
  | _, _ => false
theorem pl_isV {d : Nat} {v : Val} (h : pl d v = true) : isV v = true := by
  cases v <;> first | rfl | (cases d <;> cases h)
theorem sameBs_len {fs ds : List Val} (h : fs.length ≠ ds.length) : sameBs fs ds = false := by
  induction fs generalizing ds with
  | nil => cases ds with
    | nil => simp at h
    | cons d ds => simp [sameBs]
  | cons f fs ih => cases ds with
    | nil => simp [sameBs]
    | cons d ds => simp only [sameBs]; rw [ih (by simpa using h)]; simp
theorem sameBs_zip {fs ds : List Val} (h : fs.length = ds.length) : sameBs fs ds = (fs.zip ds).all fun p => sameB p.1 p.2 := by
  induction fs generalizing ds with
  | nil => cases ds with
    | nil => simp [sameBs]
    | cons d ds => simp at h
  | cons f fs ih => cases ds with
    | nil => simp at h
    | cons d ds => simp only [sameBs, List.zip_cons_cons, List.all_cons]; rw [ih (by simpa using h)]
theorem zipV_map (fs ds : List Val) : zipV fs ds = (fs.zip ds).map fun p => .tup [p.1, p.2] := by
  induction fs generalizing ds with
  | nil => cases ds <;> rfl
  | cons f fs ih => cases ds with
    | nil => rfl
    | cons d ds => simp [zipV, ih]
theorem shStr {a : Str} (h : PyData.strOk a = true) : SeqAt.shaped (.str a) = true := by
  show (PyData.canLay0 (.str a) && decide (PyData.depth (.str a) ≤ 64)) = true
  simp [PyData.canLay0, h, PyData.depth]
theorem eqS {a b : Str} {h : HM} (ha : PyData.strOk a = true) (hb : PyData.strOk b = true) : vEq (.str a) (.str b) h = .ok (.bl (decide (a = b))) h := by
  have e : PyData.eqv (.str a) (.str b) = decide (a = b) := by
    show (a == b) = _
    by_cases e : a = b <;> simp [e]
  show (if (SeqAt.shaped (.str a) && SeqAt.shaped (.str b)) = true then (Res.ok (Val.bl (PyData.eqv (.str a) (.str b))) h : Res Val) else .bad) = _
  rw [e, shStr ha, shStr hb]
  rfl
theorem eqB {a b : Bool} {h : HM} : vEq (.bl a) (.bl b) h = .ok (.bl (decide (a = b))) h := by
  have e : PyData.eqv (.bool a) (.bool b) = decide (a = b) := by
    show (a == b) = _
    cases a <;> cases b <;> rfl
  show (if (SeqAt.shaped (.bool a) && SeqAt.shaped (.bool b)) = true then (Res.ok (Val.bl (PyData.eqv (.bool a) (.bool b))) h : Res Val) else .bad) = _
  rw [e]
  rfl
theorem eqIS {a : Int} {b : Str} {h : HM} (hb : PyData.strOk b = true) : vEq (.int a) (.str b) h = .ok (.bl false) h := by
  show (if (SeqAt.shaped (.int a) && SeqAt.shaped (.str b)) = true then (Res.ok (Val.bl (PyData.eqv (.int a) (.str b))) h : Res Val) else .bad) = _
  rw [shStr hb]; rfl
theorem eqSI {a : Str} {b : Int} {h : HM} (ha : PyData.strOk a = true) : vEq (.str a) (.int b) h = .ok (.bl false) h := by
  show (if (SeqAt.shaped (.str a) && SeqAt.shaped (.int b)) = true then (Res.ok (Val.bl (PyData.eqv (.str a) (.int b))) h : Res Val) else .bad) = _
  rw [shStr ha]; rfl
@[simp] theorem ev_neI {a b : Int} {h : HM} : vNe (.int a) (.int b) h = .ok (.bl (!decide (a = b))) h := by
  have e : PyData.eqv (.int a) (.int b) = decide (a = b) := by
    show (a == b) = _
    by_cases e : a = b <;> simp [e]
  show (if (SeqAt.shaped (.int a) && SeqAt.shaped (.int b)) = true then (Res.ok (Val.bl (!PyData.eqv (.int a) (.int b))) h : Res Val) else .bad) = _
  rw [e]
  rfl
/-- the tuple case, the items done -/
theorem same_tup {d : Nat} {f e : Val} {fs ds : List Val} {h : HM} (hf : tupL f = some fs) (he : tupL e = some ds) (hfl : fs.length ≤ 1000000) (hds : ds.length ≤ 1000000)
    (ih : ∀ x ∈ fs.zip ds, m_law_same d [x.1, x.2] h = .ok (.bl (sameB x.1 x.2)) h) : m_law_same (d + 1) [f, e] h = .ok (.bl (sameBs fs ds)) h := by
  have vf : isV f = true := by cases f <;> first | rfl | cases hf
  have ve : isV e = true := by cases e <;> first | rfl | cases he
  have tf : tyV f = "tuple" := by cases f <;> first | rfl | cases hf
  have te : tyV e = "tuple" := by cases e <;> first | rfl | cases he
  have lf : bLen [f] h = .ok (.int fs.length) h := by cases f <;> first | (cases hf; rfl) | cases hf
  have le : bLen [e] h = .ok (.int ds.length) h := by cases e <;> first | (cases he; rfl) | cases he
  have zz : zip2 [f, e] h = .ok (srcItems ((fs.zip ds).map fun p => .tup [p.1, p.2])) h := by
    have : zip2 [f, e] h = .ok (srcItems (zipV fs ds)) h := by
      cases f <;> first | (cases hf; cases e <;> first | (cases he; rfl) | cases he) | cases hf
    rw [this, zipV_map]
  unfold m_law_same mF
  by_cases hl : fs.length = ds.length
  · have hl' : (fs.length : Int) = ds.length := by omega
    simp [isi_tab vf, isi_tab ve, tf, te, tyTab, lf, le, hl', zz]
    rw [lc_mapM (f := fun p => .bl (sameB p.1 p.2)) (fun p hp => ⟨_, rfl, by simp [wipeL, ih p hp]⟩) (by rw [sizeLine_eq]; simp; omega)]
    simp [all_ok, sameBs_zip hl]
  · have hl' : ¬ (fs.length : Int) = ds.length := by omega
    simp [isi_tab vf, isi_tab ve, tf, te, tyTab, lf, le, hl', sameBs_len hl]
theorem same_mix {d : Nat} {f e : Val} {h : HM} (vf : isV f = true) (hf : tupL f = none) (ve : tyV e = "tuple") (hv : isV e = true) : m_law_same (d + 1) [f, e] h = .ok (.bl false) h := by
  have tf : tyTab (tyV f) "tuple" = false := by cases f <;> first | rfl | (cases vf; done) | (cases hf; done)
  unfold m_law_same mF
  simp [isi_tab vf, isi_tab hv, tf, ve]
  simp [tyTab]
theorem isi_non {u : String} {h : HM} (hu : u ∈ ["bool", "int", "str", "tuple", "list"]) : bIsi [.non, .ty u] h = .ok (.bl false) h := by
  rw [isi_tab rfl hu]; simp at hu; rcases hu with rfl | rfl | rfl | rfl | rfl <;> rfl
theorem isi_bl {u : String} {b : Bool} {h : HM} (hu : u ∈ ["bool", "int", "str", "tuple", "list"]) : bIsi [.bl b, .ty u] h = .ok (.bl (u == "bool" || u == "int")) h := by
  rw [isi_tab rfl hu]; simp at hu; rcases hu with rfl | rfl | rfl | rfl | rfl <;> rfl
theorem isi_int {u : String} {b : Int} {h : HM} (hu : u ∈ ["bool", "int", "str", "tuple", "list"]) : bIsi [.int b, .ty u] h = .ok (.bl (u == "int")) h := by
  rw [isi_tab rfl hu]; simp at hu; rcases hu with rfl | rfl | rfl | rfl | rfl <;> rfl
theorem isi_st {u : String} {b : Str} {h : HM} (hu : u ∈ ["bool", "int", "str", "tuple", "list"]) : bIsi [.str b, .ty u] h = .ok (.bl (u == "str")) h := by
  rw [isi_tab rfl hu]; simp at hu; rcases hu with rfl | rfl | rfl | rfl | rfl <;> rfl
theorem isi_tup {u : String} {b : List Val} {h : HM} (hu : u ∈ ["bool", "int", "str", "tuple", "list"]) : bIsi [.tup b, .ty u] h = .ok (.bl (u == "tuple")) h := by
  rw [isi_tab rfl hu]; simp at hu; rcases hu with rfl | rfl | rfl | rfl | rfl <;> rfl
theorem isi_ptup {u : String} {b : List Val} {h : HM} (hu : u ∈ ["bool", "int", "str", "tuple", "list"]) : bIsi [.ptup b, .ty u] h = .ok (.bl (u == "tuple")) h := by
  rw [isi_tab rfl hu]; simp at hu; rcases hu with rfl | rfl | rfl | rfl | rfl <;> rfl
def isIS : Val → Bool
  | .int _ => true
  | .bl _ => true
  | .str _ => true
  | _ => false
theorem isi_is {v : Val} {h : HM} (hv : isV v = true) : bIsi [v, .tup [.ty "int", .ty "str"]] h = .ok (.bl (isIS v)) h := by
  rw [isi2_tab hv (by simp) (by simp)]
  cases v <;> first | (cases hv; done) | rfl
@[simp] theorem isis_non {h : HM} : bIsi [.non, .tup [.ty "int", .ty "str"]] h = .ok (.bl false) h := by rw [isi_is rfl]; rfl
@[simp] theorem isis_bl {b : Bool} {h : HM} : bIsi [.bl b, .tup [.ty "int", .ty "str"]] h = .ok (.bl true) h := by rw [isi_is rfl]; rfl
@[simp] theorem isis_int {b : Int} {h : HM} : bIsi [.int b, .tup [.ty "int", .ty "str"]] h = .ok (.bl true) h := by rw [isi_is rfl]; rfl
@[simp] theorem isis_str {b : Str} {h : HM} : bIsi [.str b, .tup [.ty "int", .ty "str"]] h = .ok (.bl true) h := by rw [isi_is rfl]; rfl
@[simp] theorem isis_tup {b : List Val} {h : HM} : bIsi [.tup b, .tup [.ty "int", .ty "str"]] h = .ok (.bl false) h := by rw [isi_is rfl]; rfl
@[simp] theorem isis_ptup {b : List Val} {h : HM} : bIsi [.ptup b, .tup [.ty "int", .ty "str"]] h = .ok (.bl false) h := by rw [isi_is rfl]; rfl
@[simp] theorem isis_lst {b : List Val} {h : HM} : bIsi [.lst b, .tup [.ty "int", .ty "str"]] h = .ok (.bl false) h := by rw [isi_is rfl]; rfl
@[simp] theorem isNB {b : Bool} {h : HM} : vIs (.bl b) .non h = .ok (.bl false) h := rfl
@[simp] theorem isNI {b : Int} {h : HM} : vIs (.int b) .non h = .ok (.bl false) h := rfl
@[simp] theorem isNS {b : Str} {h : HM} : vIs (.str b) .non h = .ok (.bl false) h := rfl
@[simp] theorem isNT {b : List Val} {h : HM} : vIs (.tup b) .non h = .ok (.bl false) h := rfl
@[simp] theorem isNP {b : List Val} {h : HM} : vIs (.ptup b) .non h = .ok (.bl false) h := rfl
@[simp] theorem isNN {h : HM} : vIs .non .non h = .ok (.bl true) h := rfl
theorem same_flat {d k : Nat} {f e : Val} {h : HM} (hf : pl k f = true) (hs : ∀ x, e = .str x → PyData.strOk x = true) (he : e = .non ∨ (∃ b, e = .bl b) ∨ (∃ i, e = .int i) ∨ ∃ x, e = .str x) : m_law_same (d + 1) [f, e] h = .ok (.bl (sameB f e)) h := by
  unfold m_law_same mF
  cases f with
  | non => rcases he with rfl | ⟨b, rfl⟩ | ⟨b, rfl⟩ | ⟨b, rfl⟩ <;> simp [isi_non, isi_bl, isi_int, isi_st, sameB]
  | bl c => rcases he with rfl | ⟨b, rfl⟩ | ⟨b, rfl⟩ | ⟨b, rfl⟩ <;> simp [isi_non, isi_bl, isi_int, isi_st, sameB, eqB]
  | int c => rcases he with rfl | ⟨b, rfl⟩ | ⟨b, rfl⟩ | ⟨b, rfl⟩ <;> first | simp [isi_non, isi_bl, isi_int, isi_st, sameB, eqIS (hs _ rfl)] | simp [isi_non, isi_bl, isi_int, isi_st, sameB]
  | str c =>
    have hc : PyData.strOk c = true := by cases k <;> exact hf
    rcases he with rfl | ⟨b, rfl⟩ | ⟨b, rfl⟩ | ⟨b, rfl⟩ <;> first | simp [isi_non, isi_bl, isi_int, isi_st, sameB, eqS hc (hs _ rfl)] | simp [isi_non, isi_bl, isi_int, isi_st, sameB, eqSI hc]
  | tup c => rcases he with rfl | ⟨b, rfl⟩ | ⟨b, rfl⟩ | ⟨b, rfl⟩ <;> simp [isi_non, isi_bl, isi_int, isi_st, isi_tup, sameB]
  | ptup c => rcases he with rfl | ⟨b, rfl⟩ | ⟨b, rfl⟩ | ⟨b, rfl⟩ <;> simp [isi_non, isi_bl, isi_int, isi_st, isi_ptup, sameB]
  | _ => cases k <;> cases hf
theorem at_same : ∀ (d : Nat) (f e : Val) (h : HM), pl d f = true → pl d e = true → m_law_same (d + 1) [f, e] h = .ok (.bl (sameB f e)) h := by
  intro d
  induction d with
  | zero =>
    intro f e h hf he
    refine same_flat hf (fun x z => by cases z <;> exact he) ?_
    cases e with
    | non => exact .inl rfl
    | bl b => exact .inr (.inl ⟨_, rfl⟩)
    | int b => exact .inr (.inr (.inl ⟨_, rfl⟩))
    | str b => exact .inr (.inr (.inr ⟨_, rfl⟩))
    | _ => cases he
  | succ d ih =>
    intro f e h hf he
    have key : ∀ {fs ds : List Val}, tupL f = some fs → tupL e = some ds → m_law_same (d + 1 + 1) [f, e] h = .ok (.bl (sameBs fs ds)) h := by
      intro fs ds h1 h2
      have g1 : fs.length ≤ 1000000 ∧ ∀ x ∈ fs, pl d x = true := by
        cases f <;> first | (cases h1; simp [pl] at hf; exact hf) | cases h1
      have g2 : ds.length ≤ 1000000 ∧ ∀ x ∈ ds, pl d x = true := by
        cases e <;> first | (cases h2; simp [pl] at he; exact he) | cases h2
      exact same_tup h1 h2 g1.1 g2.1 fun x hx => ih x.1 x.2 h (g1.2 _ (List.of_mem_zip hx).1) (g2.2 _ (List.of_mem_zip hx).2)
    cases e with
    | tup ds =>
      cases hfs : tupL f with
      | none => rw [same_mix (pl_isV hf) hfs rfl rfl]; simp [sameB, hfs]
      | some fs => rw [key hfs rfl]; simp [sameB, hfs]
    | ptup ds =>
      cases hfs : tupL f with
      | none => rw [same_mix (pl_isV hf) hfs rfl rfl]; simp [sameB, hfs]
      | some fs => rw [key hfs rfl]; simp [sameB, hfs]
    | non => exact same_flat hf (fun x z => by cases z <;> exact he) (.inl rfl)
    | bl b => exact same_flat hf (fun x z => by cases z <;> exact he) (.inr (.inl ⟨_, rfl⟩))
    | int b => exact same_flat hf (fun x z => by cases z <;> exact he) (.inr (.inr (.inl ⟨_, rfl⟩)))
    | str b => exact same_flat hf (fun x z => by cases z <;> exact he) (.inr (.inr (.inr ⟨_, rfl⟩)))
    | _ => cases he
def s_law_same : FM := fun xs h => match xs with
  | [f, e] => if (pl 30 f && pl 30 e) = true then .ok (.bl (sameB f e)) h else .bad
  | _ => .bad
theorem le_law_same (xs : List Val) (h : HM) (_ : xs.length = 2) (_ : Wf h) (_ : CloS h.length xs) : Le h (s_law_same xs h) (m_law_same 31 xs h) := by
  match xs with
  | [f, e] =>
    show Le h (if (pl 30 f && pl 30 e) = true then _ else _) _
    split
    · rename_i hp
      rw [Bool.and_eq_true] at hp
      rw [at_same 30 f e h hp.1 hp.2]
      exact .same
    · exact .bad
theorem same_ok {f e : Val} {h : HM} (hf : pl 30 f = true) (he : pl 30 e = true) : s_law_same [f, e] h = .ok (.bl (sameB f e)) h := by simp [s_law_same, hf, he]
abbrev Mk := Int × Int
def eM (m : Mk) : Val := .tup [.int m.1, .int m.2]
def within (m : Mk) (ks : List Mk) : Bool := ks.any fun k => decide (k.1 = m.1) && decide (m.2 ≤ k.2)
theorem src_tup {v : Val} {xs : List Val} {h : HM} (e : tupL v = some xs) : srcOf v h = .ok (srcItems xs) h := by
  cases v <;> first | (cases e; rfl) | cases e
theorem len_tup {v : Val} {xs : List Val} {h : HM} (e : tupL v = some xs) : bLen [v] h = .ok (.int xs.length) h := by
  cases v <;> first | (cases e; rfl) | cases e
@[simp] theorem ix0 {x : Val} {xs : List Val} {h : HM} : vIx (.tup (x :: xs)) (.int 0) h = .ok x h := by
  show ofO (atI (x :: xs) 0) h = _
  rw [atI_nat (by decide)]; rfl
@[simp] theorem ix1 {x y : Val} {xs : List Val} {h : HM} : vIx (.tup (x :: y :: xs)) (.int 1) h = .ok y h := by
  show ofO (atI (x :: y :: xs) 1) h = _
  rw [atI_nat (by decide)]; rfl
theorem at_within {m : Mk} {ks : List Mk} {v : Val} {h : HM} (e : tupL v = some (ks.map eM)) (hl : ks.length ≤ 1000000) : m_is_within [eM m, v] h = .ok (.bl (within m ks)) h := by
  unfold m_is_within mF
  simp [src_tup e]
  rw [lc_mapM (f := fun k : Mk => .bl (decide (k.1 = m.1) && decide (m.2 ≤ k.2))) (fun k hk => ⟨_, rfl, ?_⟩) (by rw [sizeLine_eq]; omega)]
  · simp [any_ok, within]
  · simp only [wipeL, List.set, eM]
    by_cases h1 : k.1 = m.1 <;> simp [h1]
def heard (ks ms : List Mk) : Bool := ms.all fun m => within m ks
theorem at_which {c : Int} {h : HM} : m_law_which [.int c] h = .ok (eM (mix c 9871 6, 1 + mix c 9859 4 + 9 * (c % 2))) h := by
  have h9 : ∀ (k : Int) (h : HM), vMul (.int 9) (.int k) h = .ok (.int (9 * k)) h := fun k h => ev_mulI (.inl (by decide))
  unfold m_law_which mF
  simp [at_mix, ev_modI, h9, eM]
@[simp] theorem last_get {h : HM} {o : Ob} : (h ++ [o])[List.length h]? = some o := by
  rw [List.getElem?_append_right (Nat.le_refl _)]; simp
@[simp] theorem last_set {h : HM} {o o' : Ob} : List.set (h ++ [o]) (List.length h) o' = h ++ [o'] := by
  simp [List.set_append]
theorem app_last {h : HM} {ys : List Val} {y : Val} (hz : ys.length ≤ 1000000) : mAppend (.ref (List.length h)) [y] (h ++ [.lst ys]) = .ok .non (h ++ [.lst (ys ++ [y])]) := by
  simp only [mAppend, last_get]
  rw [if_pos (by rw [sizeLine_eq]; omega), last_set]
@[simp] theorem kd_last {h : HM} {ys : List Val} : isKd .list (.ref (List.length h)) (h ++ [.lst ys]) = true := by
  simp [isKd, seqL]
@[simp] theorem seq_last {h : HM} {ys : List Val} : seqL (.ref (List.length h)) (h ++ [.lst ys]) = some ys := by
  simp [seqL]
def knownN (c : Int) (w : Mk) (j : Nat) : Int := mix (c + 31 * (j : Nat)) 9907 3 + (if (j : Int) = w.1 then w.2 else 0)
def knownTo (c : Int) (w : Mk) (n : Nat) : List Mk := (List.range n).filterMap fun j => if 0 < knownN c w j then some ((j : Int), knownN c w j) else none
def lknown (c : Int) (w : Mk) : List Mk := knownTo c w 6
theorem knownTo_succ {c : Int} {w : Mk} {n : Nat} : knownTo c w (n + 1) = knownTo c w n ++ (if 0 < knownN c w n then [((n : Int), knownN c w n)] else []) := by
  unfold knownTo
  rw [List.range_succ, List.filterMap_append]
  congr 1
  by_cases h : 0 < knownN c w n <;> simp [h]
theorem knownTo_len {c : Int} {w : Mk} {n : Nat} : (knownTo c w n).length ≤ n := by
  unfold knownTo
  have := List.length_filterMap_le (fun j : Nat => if 0 < knownN c w j then some ((j : Int), knownN c w j) else none) (List.range n)
  simpa using this
theorem at_known {c : Int} {w : Mk} {h : HM} : m_law_known [.int c, eM w] h = .ok (.ptup ((lknown c w).map eM)) (h ++ [.lst ((lknown c w).map eM)]) := by
  have h31 : ∀ (k : Int) (h : HM), vMul (.int 31) (.int k) h = .ok (.int (31 * k)) h := fun k h => ev_mulI (.inl (by decide))
  obtain ⟨l', h', e, ⟨a3, a4, e1, e2⟩⟩ := for_inv (xs := intsV 0 6) (g := gNm 3) (b := m_law_known_f0) (l := [some (.int c), some (eM w), some (.ref (List.length h)), none, none]) (h := h ++ [.lst []])
    (fun i l h' => ∃ a3 a4, l = [some (.int c), some (eM w), some (.ref (List.length h)), a3, a4] ∧ h' = h ++ [.lst ((knownTo c w i).map eM)]) ⟨_, _, rfl, rfl⟩ (by
    rintro i x l h' hx ⟨a3, a4, rfl, rfl⟩
    obtain ⟨hi, rfl⟩ := intsV_get hx
    rw [Int.zero_add]
    have hl := knownTo_len (c := c) (w := w) (n := i)
    have en : knownN c w i = mix (c + 31 * (i : Nat)) 9907 3 + (if (i : Int) = w.1 then w.2 else 0) := rfl
    refine ⟨[some (.int c), some (eM w), some (.ref (List.length h)), some (.int (i : Nat)), a4], [some (.int c), some (eM w), some (.ref (List.length h)), some (.int (i : Nat)), some (.int (knownN c w i))], _, rfl, ?_, _, _, rfl, rfl⟩
    unfold m_law_known_f0
    rw [knownTo_succ]
    have ha := app_last (h := h) (ys := (knownTo c w i).map eM) (y := eM ((i : Int), knownN c w i)) (by simp; omega)
    by_cases h1 : (i : Int) = w.1
    · simp [h1] at en
      by_cases h2 : 0 < knownN c w i <;> simp [eM, h1] at ha <;> simp [h31, at_mix, eM, h1, ← en, h2, ha]
    · simp [h1] at en
      by_cases h2 : 0 < knownN c w i <;> simp [eM] at ha <;> simp [h31, at_mix, eM, h1, ← en, h2, ha])
  unfold m_law_known mF
  simp
  rw [e, e1, e2]
  have hlen : (intsV 0 6).length = 6 := rfl
  simp [bTupleP, hlen, lknown]
/-- what the law draws as known, forgetting how -/
def isMk : Val → Option Mk
  | .tup [.int a, .int b] => some (a, b)
  | _ => none
theorem isMk_eM (w : Mk) : isMk (eM w) = some w := rfl
theorem eM_of {v : Val} {w : Mk} (e : isMk v = some w) : v = eM w := by
  unfold isMk at e
  split at e
  · cases e; rfl
  · cases e
def s_law_known : FM := fun xs h => match xs with
  | [.int c, v] => (match isMk v with
    | some w => .ok (.ptup ((lknown c w).map eM)) h
    | none => .bad)
  | _ => .bad
theorem frz_mks {h : HM} {n : Nat} (ks : List Mk) : FrzS h n (ks.map eM) (ks.map eM) := by
  induction ks with
  | nil => exact .nil
  | cons k ks ih => exact .cons (.tup (.cons (.int _) (.cons (.int _) .nil))) ih
theorem le_law_known (xs : List Val) (h : HM) (_ : xs.length = 2) (w : Wf h) (_ : CloS h.length xs) : Le h (s_law_known xs h) (m_law_known xs h) := by
  unfold s_law_known
  split
  · rename_i c v
    split
    · rename_i m e
      rw [eM_of e, at_known]
      exact .pure w (.ptup (frz_mks _))
    · exact .bad
  · exact .bad
theorem known_ok {c : Int} {w : Mk} {h : HM} : s_law_known [.int c, eM w] h = .ok (.ptup ((lknown c w).map eM)) h := rfl
theorem lknown_mem {c : Int} {w : Mk} (hw : 0 ≤ w.2) {k : Mk} : k ∈ lknown c w ↔ ∃ j : Nat, j < 6 ∧ 0 < knownN c w j ∧ k = ((j : Int), knownN c w j) := by
  unfold lknown knownTo
  simp only [List.mem_filterMap, List.mem_range]
  constructor
  · rintro ⟨j, hj, e⟩
    by_cases h : 0 < knownN c w j
    · rw [if_pos h] at e; exact ⟨j, hj, h, (Option.some.inj e).symm⟩
    · rw [if_neg h] at e; cases e
  · rintro ⟨j, hj, h, rfl⟩
    exact ⟨j, hj, by rw [if_pos h]⟩
end MM
namespace MM
open PySem L2
section
variable {h : HM} {o o' p : Ob} {n : Nat}
@[simp] theorem get_at {l : HM} {k : Nat} : (h ++ l)[List.length h + k]? = l[k]? := by
  rw [List.getElem?_append_right (by omega)]; congr 1; omega
@[simp] theorem get_at0 {l : HM} : (h ++ l)[List.length h]? = l[0]? := by
  rw [List.getElem?_append_right (by omega)]; congr 1; omega
@[simp] theorem set_at {l : HM} {k : Nat} : List.set (h ++ l) (List.length h + k) o = h ++ l.set k o := by
  simp [List.set_append]
@[simp] theorem set_at0 {l : HM} : List.set (h ++ l) (List.length h) o = h ++ l.set 0 o := by
  simp [List.set_append]
end
@[simp] theorem ev_eLock {which m : EM} {l : Loc} {h : HM} : eLock which m l h = match which l h with
  | .ok (.ref n) _ => (match h[n]? with
    | some o => (match lockO o with
      | some o' => (match m l (h.set n o') with
        | .ok v h' => .ok v (h'.set n o)
        | _ => .bad)
      | none => .bad)
    | none => .bad)
  | _ => .bad := rfl
@[simp] theorem ev_iKeysA {m : EM} {l : Loc} {h : HM} : iKeysA m l h = (m l h).bind keysSrc := rfl
@[simp] theorem ev_eGet2 {mo me mf : EM} {l : Loc} {h : HM} : eGet2 mo me mf l h = (mo l h).bind fun o h1 => match o with
  | .ref n => if isDict n h1 = true then (me l h1).bind fun y h2 => (mf l h2).bind fun z h3 => match dGet n y h3 with
    | some (some v) => .ok v h3
    | some none => .ok z h3
    | none => .bad else .bad
  | _ => .bad := rfl
def look (ks : List Mk) (j : Int) : Option Int := (ks.find? fun m => decide (m.1 = j)).map (·.2)
theorem look_some {ks : List Mk} (nd : (ks.map (·.1)).Nodup) {m : Mk} (hm : m ∈ ks) : look ks m.1 = some m.2 := by
  unfold look
  induction ks with
  | nil => cases hm
  | cons k ks ih =>
    simp only [List.map_cons, List.nodup_cons] at nd
    rcases List.mem_cons.mp hm with rfl | hm
    · simp
    · have : ¬ k.1 = m.1 := fun e => nd.1 (e ▸ List.mem_map_of_mem hm)
      simp only [List.find?_cons, this, decide_false]
      exact ih nd.2 hm
theorem look_mem {ks : List Mk} {j c : Int} (e : look ks j = some c) : (j, c) ∈ ks := by
  unfold look at e
  simp only [Option.map_eq_some_iff] at e
  obtain ⟨m, h1, rfl⟩ := e
  have h2 := List.mem_of_find?_eq_some h1
  have h3 := List.find?_some h1
  simp at h3
  subst h3
  exact h2
theorem look_none {ks : List Mk} {j : Int} (e : look ks j = none) : ∀ m ∈ ks, m.1 ≠ j := by
  unfold look at e
  simp only [Option.map_eq_none_iff, List.find?_eq_none] at e
  intro m hm h
  have := e m hm
  simp [h] at this
/-- within, by what stands at the house -/
theorem within_look {ks : List Mk} (nd : (ks.map (·.1)).Nodup) {j c : Int} : within (j, c) ks = match look ks j with | some d => decide (c ≤ d) | none => false := by
  unfold within
  cases e : look ks j with
  | none =>
    simp only [List.any_eq_false]
    intro m hm
    have := look_none e m hm
    simp [this]
  | some d =>
    have hd := look_mem e
    dsimp only
    by_cases h : c ≤ d
    · rw [decide_eq_true h, List.any_eq_true]
      exact ⟨(j, d), hd, by simp [h]⟩
    · rw [decide_eq_false h, List.any_eq_false]
      intro m hm
      by_cases h1 : m.1 = j
      · have h2 := look_some nd hm
        rw [h1, e] at h2
        have : d = m.2 := Option.some.inj h2
        simp [h1]; omega
      · simp [h1]
theorem knownTo_fst {c : Int} {w : Mk} {n : Nat} {m : Mk} (h : m ∈ knownTo c w n) : ∃ j : Nat, j < n ∧ m.1 = (j : Nat) ∧ 0 < m.2 := by
  unfold knownTo at h
  simp only [List.mem_filterMap, List.mem_range] at h
  obtain ⟨j, hj, e⟩ := h
  by_cases h : 0 < knownN c w j
  · rw [if_pos h] at e; cases e; exact ⟨j, hj, rfl, h⟩
  · rw [if_neg h] at e; cases e
theorem knownTo_nd {c : Int} {w : Mk} {n : Nat} : ((knownTo c w n).map (·.1)).Nodup := by
  induction n with
  | zero => simp [knownTo]
  | succ n ih =>
    rw [knownTo_succ, List.map_append, List.nodup_append]
    refine ⟨ih, ?_, fun a ha b hb => ?_⟩
    · split <;> simp
    · simp only [List.mem_map] at ha
      obtain ⟨m, hm, rfl⟩ := ha
      obtain ⟨j, hj, e, _⟩ := knownTo_fst hm
      by_cases h : 0 < knownN c w n
      · rw [if_pos h] at hb
        simp at hb
        subst hb
        rw [e]
        omega
      · rw [if_neg h] at hb; simp at hb
theorem lknown_nd {c : Int} {w : Mk} : ((lknown c w).map (·.1)).Nodup := knownTo_nd
theorem lknown_len {c : Int} {w : Mk} : (lknown c w).length ≤ 6 := knownTo_len
theorem lknown_pos {c : Int} {w : Mk} {m : Mk} (h : m ∈ lknown c w) : 0 < m.2 ∧ 0 ≤ m.1 ∧ m.1 < 6 := by
  obtain ⟨j, hj, e, p⟩ := knownTo_fst h
  exact ⟨p, by omega, by omega⟩
/-- the file's own house is known -/
theorem lknown_own {c : Int} {w : Mk} (h0 : 0 ≤ w.1 ∧ w.1 < 6) (h1 : 0 < w.2) : ∃ m ∈ lknown c w, m.1 = w.1 ∧ w.2 ≤ m.2 := by
  have hj : ((w.1.toNat : Nat) : Int) = w.1 := by omega
  have hp : knownN c w w.1.toNat = mix (c + 31 * (w.1.toNat : Nat)) 9907 3 + w.2 := by simp [knownN, hj]
  have hm := mix_nn (c := c + 31 * ((w.1.toNat : Nat) : Int)) (p := 9907) (m := 3) (by decide)
  refine ⟨((w.1.toNat : Nat), knownN c w w.1.toNat), ?_, hj, by rw [hp]; omega⟩
  rw [lknown_mem (by omega)]
  exact ⟨w.1.toNat, by omega, by omega, rfl⟩
theorem which_ok (c : Int) : (0 ≤ mix c 9871 6 ∧ mix c 9871 6 < 6) ∧ 0 < 1 + mix c 9859 4 + 9 * (c % 2) := by
  have a := mix_nn (c := c) (p := 9871) (m := 6) (by decide)
  have b := mix_lt (c := c) (p := 9871) (m := 6) (by decide)
  have d := mix_nn (c := c) (p := 9859) (m := 4) (by decide)
  omega
def lwhich (c : Int) : Mk := (mix c 9871 6, 1 + mix c 9859 4 + 9 * (c % 2))
theorem at_which' {c : Int} {h : HM} : m_law_which [.int c] h = .ok (eM (lwhich c)) h := at_which
end MM
namespace MM
open PySem L2 PySem.W
/-- how a thing stands as a value -/
class Enc (α : Type) [DecidableEq α] extends DatumOrd α where
  enc : α → Val
  dat : ∀ a, datF (enc a) = some (toD a)
  noP : ∀ a, noP (enc a) = true
  ok : α → Prop
  lay : ∀ a, ok a → (toD a).canLay0 = true
open Enc
instance : Enc Int where
  enc := .int
  dat a := rfl
  noP a := rfl
  ok _ := True
  lay a _ := rfl
instance : Enc Str where
  enc := .str
  dat a := rfl
  noP a := rfl
  ok x := PyData.strOk x = true
  lay a h := h
section
variable {α β : Type} [DecidableEq α] [Enc α] [DecidableEq β] [Enc β]
theorem datFs_map (xs : List α) : datFs (xs.map enc) = some (xs.map Datum.toD) := by
  induction xs with
  | nil => rfl
  | cons x xs ih => simp [datFs, Enc.dat, ih]
theorem noPs_map (xs : List α) : noPs (xs.map enc) = true := by
  induction xs with
  | nil => rfl
  | cons x xs ih => simp [noPs, Enc.noP, ih]
instance : Enc (α × β) where
  enc p := .tup [enc p.1, enc p.2]
  dat p := by
    show (datFs [enc p.1, enc p.2]).map PyData.tuple = _
    simp only [datFs, Enc.dat]
    rfl
  noP p := by
    show noPs [enc p.1, enc p.2] = true
    simp [noPs, Enc.noP]
  ok p := ok p.1 ∧ ok p.2
  lay p h := by
    show PyData.canLay0 (.tuple [Datum.toD p.1, Datum.toD p.2]) = true
    simp [PyData.canLay0, PyData.canLayAll0, Enc.lay _ h.1, Enc.lay _ h.2]
theorem dat_eq {v : Val} {d : PyData} {h : HM} (e : datF v = some d) : dat v h = some d := by
  cases v <;> first | exact e | cases e
theorem sh_one {a : α} (ha : ok a) (hd : Datum.depth α ≤ 50) : SeqAt.shaped (Datum.toD a) = true := by
  have := Datum.depth_le a
  unfold SeqAt.shaped
  rw [Enc.lay a ha]
  simp; omega
theorem neE {a b : α} {h : HM} (ha : ok a) (hb : ok b) (hd : Datum.depth α ≤ 50 := by decide) : vNe (enc a) (enc b) h = .ok (.bl (!decide (a = b))) h := by
  unfold vNe
  rw [dat_eq (Enc.dat a), dat_eq (Enc.dat b)]
  simp only [sh_one ha hd, sh_one hb hd, Bool.and_self, if_true, Datum.eqv]
def srt (xs : List α) : List α := xs.mergeSort fun a b => !DatumOrd.lt b a
theorem sortV_enc (xs : List α) : sortV (xs.map enc) (xs.map Datum.toD) = (srt xs).map enc := by
  unfold sortV srt
  have e : (xs.map enc).zip (xs.map (Datum.toD : α → PyData)) = xs.map fun x => (enc x, Datum.toD x) := by
    induction xs with
    | nil => rfl
    | cons x xs ih => simp [ih]
  rw [e, ← List.map_mergeSort (r := fun a b : α => !DatumOrd.lt b a) (f := fun x : α => (enc x, Datum.toD x)) (fun a _ b _ => ?_), List.map_map]
  · rfl
  · show (!DatumOrd.lt b a) = !dataLt (Datum.toD b) (Datum.toD a)
    rw [DatumOrd.lt_eq]
theorem canSort {xs : List α} (hs : Sortable (xs.map (Datum.toD : α → PyData))) (hl : xs.length ≤ 1000000) (hd : Datum.depth α ≤ 50) : CanSort (xs.map (Datum.toD : α → PyData)) := by
  refine ⟨?_, hs, by rw [sizeLine_eq]; simp; omega, ?_⟩
  · intro d hd d' hd'
    obtain ⟨x, _, rfl⟩ := List.mem_map.mp hd
    obtain ⟨y, _, rfl⟩ := List.mem_map.mp hd'
    exact DatumOrd.alike x y
  · intro d hm
    obtain ⟨x, _, rfl⟩ := List.mem_map.mp hm
    have := Datum.depth_le x
    omega
theorem sortable_pair (xs : List (α × β)) : Sortable (xs.map (Datum.toD : α × β → PyData)) := .inl fun d hd => by
  obtain ⟨x, _, rfl⟩ := List.mem_map.mp hd
  exact ⟨_, _, rfl⟩
theorem srt_mem {xs : List α} {x : α} : x ∈ srt xs ↔ x ∈ xs := by unfold srt; exact List.mem_mergeSort
theorem srt_perm (xs : List α) : (srt xs).Perm xs := List.mergeSort_perm _ _
theorem srt_len (xs : List α) : (srt xs).length = xs.length := by unfold srt; simp
end
end MM
namespace MM
open PySem L2 PySem.W
/-- a total order -/
class EncO (α : Type) [DecidableEq α] extends Enc α where
  tri : ∀ a b : α, DatumOrd.lt a b = false → DatumOrd.lt b a = false → a = b
  asym : ∀ a b : α, DatumOrd.lt a b = true → DatumOrd.lt b a = false
  tran : ∀ a b c : α, DatumOrd.lt b a = false → DatumOrd.lt c b = false → DatumOrd.lt c a = false
open EncO
instance : EncO Int where
  tri a b h g := by
    simp only [DatumOrd.lt, decide_eq_false_iff_not] at h g; omega
  asym a b h := by
    simp only [DatumOrd.lt, decide_eq_true_eq, decide_eq_false_iff_not] at h ⊢; omega
  tran a b c h g := by
    simp only [DatumOrd.lt, decide_eq_false_iff_not] at h g ⊢; omega
instance : EncO Str where
  tri a b h g := by
    simp only [DatumOrd.lt, decide_eq_false_iff_not] at h g
    have := List.le_antisymm (List.not_lt.mp g) (List.not_lt.mp h)
    rw [sg_of a, sg_of b, this]
  asym a b h := by
    simp only [DatumOrd.lt, decide_eq_true_eq, decide_eq_false_iff_not] at h ⊢
    exact List.lt_asymm h
  tran a b c h g := by
    simp only [DatumOrd.lt, decide_eq_false_iff_not] at h g ⊢
    exact List.not_lt.mpr (List.le_trans (List.not_lt.mp h) (List.not_lt.mp g))
section
variable {α β : Type} [DecidableEq α] [EncO α] [DecidableEq β] [EncO β]
theorem lt_pair (a b : α × β) : DatumOrd.lt a b = if a.1 = b.1 then DatumOrd.lt a.2 b.2 else DatumOrd.lt a.1 b.1 := rfl
theorem lt_irr (a : α) : DatumOrd.lt a a = false := by
  cases e : DatumOrd.lt a a with
  | false => rfl
  | true => have := asym a a e; rw [e] at this; cases this
instance : EncO (α × β) where
  tri a b h g := by
    rw [lt_pair] at h g
    by_cases e : a.1 = b.1
    · rw [if_pos e] at h; rw [if_pos e.symm] at g
      exact Prod.ext e (tri _ _ h g)
    · rw [if_neg e] at h; rw [if_neg fun x => e x.symm] at g
      exact absurd (tri _ _ h g) e
  asym a b h := by
    rw [lt_pair] at h ⊢
    by_cases e : a.1 = b.1
    · rw [if_pos e] at h; rw [if_pos e.symm]; exact asym _ _ h
    · rw [if_neg e] at h; rw [if_neg fun x => e x.symm]; exact asym _ _ h
  tran a b c h g := by
    rw [lt_pair] at h g ⊢
    by_cases e1 : a.1 = b.1
    · rw [if_pos e1.symm] at h
      by_cases e2 : b.1 = c.1
      · rw [if_pos e2.symm] at g
        rw [if_pos (e1.trans e2).symm]
        exact tran _ _ _ h g
      · rw [if_neg fun x => e2 x.symm] at g
        rw [if_neg fun x => e2 (e1.symm.trans x.symm), e1]
        exact g
    · rw [if_neg fun x => e1 x.symm] at h
      by_cases e2 : b.1 = c.1
      · rw [if_neg fun x => e1 (x.symm.trans e2.symm), ← e2]
        exact h
      · rw [if_neg fun x => e2 x.symm] at g
        by_cases e3 : c.1 = a.1
        · rw [e3] at g
          exact absurd (tri _ _ g h) e1
        · rw [if_neg e3]; exact tran _ _ _ h g
theorem srt_pw (xs : List α) : List.Pairwise (fun a b => DatumOrd.lt b a = false) (srt xs) := by
  have := List.pairwise_mergeSort (le := fun a b : α => !DatumOrd.lt b a) (fun a b c h g => by
    simp only [Bool.not_eq_true'] at h g ⊢
    exact tran a b c h g) (fun a b => by
    cases e : DatumOrd.lt b a with
    | false => rfl
    | true => rw [asym b a e]; rfl) xs
  unfold srt
  exact this.imp fun h => by simpa using h
theorem srt_eq {xs ys : List α} (hx : xs.Nodup) (hy : ys.Nodup) (h : ∀ a, a ∈ xs ↔ a ∈ ys) : srt xs = srt ys := by
  have p : (srt xs).Perm (srt ys) := (srt_perm xs).trans (((List.perm_ext_iff_of_nodup hx hy).mpr h).trans (srt_perm ys).symm)
  exact List.Perm.eq_of_pairwise (le := fun a b => DatumOrd.lt b a = false) (fun a b _ _ h g => tri a b g h) (srt_pw xs) (srt_pw ys) p
theorem srt_nd {xs : List α} (h : xs.Nodup) : (srt xs).Nodup := (srt_perm xs).nodup_iff.mpr h
theorem srt_srt (xs : List α) : srt (srt xs) = srt xs :=
  List.Perm.eq_of_pairwise (le := fun a b => DatumOrd.lt b a = false) (fun a b _ _ h g => tri a b g h) (srt_pw _) (srt_pw _) (srt_perm _)
/-- sorted -/
def Sd (xs : List α) : Prop := srt xs = xs
theorem sd_of_pw {xs : List α} (h : List.Pairwise (fun a b => DatumOrd.lt a b = true) xs) : Sd xs :=
  List.Perm.eq_of_pairwise (le := fun a b => DatumOrd.lt b a = false) (fun a b _ _ h g => tri a b g h) (srt_pw _) (h.imp fun e => asym _ _ e) (srt_perm _)
theorem sd_eq {xs ys : List α} (sx : Sd xs) (sy : Sd ys) (hx : xs.Nodup) (hy : ys.Nodup) (h : ∀ a, a ∈ xs ↔ a ∈ ys) : xs = ys := by
  have := srt_eq hx hy h
  rwa [sx, sy] at this
end
def putI (ks : List Mk) (m : Mk) : List Mk := if (ks.any fun k => decide (k.1 = m.1)) = true then ks.map (fun k => if k.1 = m.1 then (k.1, m.2) else k) else ks ++ [m]
theorem putI_keys {ks : List Mk} {m : Mk} (nd : (ks.map (·.1)).Nodup) : ((putI ks m).map (·.1)).Nodup := by
  unfold putI
  split
  · have : (ks.map fun k => if k.1 = m.1 then (k.1, m.2) else k).map (·.1) = ks.map (·.1) := by
      rw [List.map_map]
      refine List.map_congr_left fun k hk => ?_
      simp only [Function.comp]
      split <;> rfl
    rw [this]; exact nd
  · rename_i h
    rw [List.map_append, List.nodup_append]
    refine ⟨nd, by simp, fun a ha b hb => ?_⟩
    simp at hb
    subst hb
    simp only [List.mem_map] at ha
    obtain ⟨k, hk, rfl⟩ := ha
    intro e
    apply h
    rw [List.any_eq_true]
    exact ⟨k, hk, by simp [e]⟩
theorem look_of {ks : List Mk} (nd : (ks.map (·.1)).Nodup) {j c : Int} (h : (j, c) ∈ ks) : look ks j = some c := look_some nd h
theorem putI_look {ks : List Mk} {m : Mk} (nd : (ks.map (·.1)).Nodup) {j : Int} : look (putI ks m) j = if j = m.1 then some m.2 else look ks j := by
  have nd2 := putI_keys (m := m) nd
  by_cases h : j = m.1
  · rw [if_pos h]
    subst h
    refine look_of nd2 ?_
    unfold putI
    split
    · rename_i h
      rw [List.any_eq_true] at h
      obtain ⟨k, hk, e⟩ := h
      exact List.mem_map.mpr ⟨k, hk, by simp at e; simp [e]⟩
    · simp
  · rw [if_neg h]
    cases e : look ks j with
    | some c =>
      refine look_of nd2 ?_
      have := look_mem e
      unfold putI
      split
      · exact List.mem_map.mpr ⟨_, this, by simp [h]⟩
      · simp [this]
    | none =>
      have hn := look_none e
      cases e2 : look (putI ks m) j with
      | none => rfl
      | some c =>
        have := look_mem e2
        unfold putI at this
        split at this
        · obtain ⟨k, hk, ek⟩ := List.mem_map.mp this
          exfalso
          by_cases hk2 : k.1 = m.1
          · rw [if_pos hk2] at ek
            exact h (by rw [← hk2]; exact (congrArg Prod.fst ek).symm)
          · rw [if_neg hk2] at ek
            exact hn k hk (by rw [ek])
        · exfalso
          rcases List.mem_append.mp this with hm | hm
          · exact hn _ hm rfl
          · simp at hm
            exact h (by rw [← hm])
theorem putI_len {ks : List Mk} {m : Mk} : (putI ks m).length ≤ ks.length + 1 := by
  unfold putI; split <;> simp
def upd1 (acc : List Mk) (m : Mk) : List Mk := putI acc (m.1, max m.2 ((look acc m.1).getD 0))
def joinK (a b : List Mk) : List Mk := b.foldl upd1 a
theorem joinK_keys {a : List Mk} (nd : (a.map (·.1)).Nodup) : ∀ {b : List Mk}, ((joinK a b).map (·.1)).Nodup := by
  intro b
  induction b generalizing a with
  | nil => exact nd
  | cons m b ih => exact ih (putI_keys nd)
theorem joinK_len {b : List Mk} : ∀ {a : List Mk}, (joinK a b).length ≤ a.length + b.length := by
  induction b with
  | nil => intro a; exact Nat.le_refl _
  | cons m b ih =>
    intro a
    have h1 := ih (a := upd1 a m)
    have h2 : (upd1 a m).length ≤ a.length + 1 := putI_len
    show (joinK (upd1 a m) b).length ≤ _
    simp only [List.length_cons]; omega
theorem upd1_within {a : List Mk} (nd : (a.map (·.1)).Nodup) {m p : Mk} (hm : 0 < m.2) : within p (upd1 a m) = (within p a || within p [m]) := by
  have nd2 : ((upd1 a m).map (·.1)).Nodup := putI_keys nd
  rw [show p = (p.1, p.2) from rfl, within_look nd2, within_look nd]
  unfold upd1
  rw [putI_look nd]
  have e1 : within (p.1, p.2) [m] = (decide (m.1 = p.1) && decide (p.2 ≤ m.2)) := by simp [within]
  rw [e1]
  by_cases h : p.1 = m.1
  · rw [if_pos h, h]
    cases look a m.1 with
    | none =>
      simp
      by_cases q : p.2 ≤ m.2 <;> simp [q] <;> omega
    | some d =>
      simp
      by_cases q : p.2 ≤ m.2 <;> by_cases q2 : p.2 ≤ d <;> simp [q, q2] <;> omega
  · have h' : ¬ m.1 = p.1 := fun e => h e.symm
    rw [if_neg h]
    simp [h']
theorem within_cons {p m : Mk} {b : List Mk} : within p (m :: b) = (within p [m] || within p b) := by simp [within]
theorem joinK_within {b : List Mk} (hb : ∀ m ∈ b, 0 < m.2) {p : Mk} : ∀ {a : List Mk}, (a.map (·.1)).Nodup → within p (joinK a b) = (within p a || within p b) := by
  induction b with
  | nil => intro a nd; simp [joinK, within]
  | cons m b ih =>
    intro a nd
    show within p (joinK (upd1 a m) b) = _
    rw [ih (fun k hk => hb k (List.mem_cons_of_mem _ hk)) (a := upd1 a m) (putI_keys nd), upd1_within nd (hb m List.mem_cons_self), within_cons (m := m) (b := b), Bool.or_assoc]
theorem joinK_pos {b : List Mk} (hb : ∀ m ∈ b, 0 < m.2) : ∀ {a : List Mk}, (∀ m ∈ a, 0 < m.2) → ∀ m ∈ joinK a b, 0 < m.2 := by
  induction b with
  | nil => intro a ha; exact ha
  | cons m b ih =>
    intro a ha
    refine ih (fun k hk => hb k (List.mem_cons_of_mem _ hk)) (a := upd1 a m) ?_
    have := hb m List.mem_cons_self
    have hmax : 0 < max m.2 ((look a m.1).getD 0) := by omega
    intro k hk
    unfold upd1 putI at hk
    split at hk
    · obtain ⟨q, hq, e⟩ := List.mem_map.mp hk
      by_cases h : q.1 = m.1
      · rw [if_pos h] at e; subst e; exact hmax
      · rw [if_neg h] at e; subst e; exact ha q hq
    · rcases List.mem_append.mp hk with hk | hk
      · exact ha k hk
      · simp at hk; subst hk; exact hmax
theorem within_srt {p : Mk} {ks : List Mk} : within p (srt ks) = within p ks := by
  rw [Bool.eq_iff_iff, within, within, List.any_eq_true, List.any_eq_true]
  simp only [srt_mem]
theorem keys_srt {ks : List Mk} (nd : (ks.map (·.1)).Nodup) : ((srt ks).map (·.1)).Nodup := ((srt_perm ks).map _).nodup_iff.mpr nd
theorem nd_of_keys {ks : List Mk} (nd : (ks.map (·.1)).Nodup) : ks.Nodup := (List.pairwise_map.mp nd).imp fun h e => h (congrArg Prod.fst e)
theorem mem_within {ks : List Mk} (nd : (ks.map (·.1)).Nodup) {m : Mk} : m ∈ ks ↔ within m ks = true ∧ within (m.1, m.2 + 1) ks = false := by
  rw [show m = (m.1, m.2) from rfl, within_look nd, within_look nd]
  constructor
  · intro h; rw [look_of nd h]; simp; omega
  · rintro ⟨h1, h2⟩
    cases e : look ks m.1 with
    | none => rw [e] at h1; cases h1
    | some d =>
      rw [e] at h1 h2
      simp at h1 h2
      have : d = m.2 := by omega
      subst this
      exact look_mem e
/-- known things are told by what is within -/
theorem known_eq {ks js : List Mk} (n1 : (ks.map (·.1)).Nodup) (n2 : (js.map (·.1)).Nodup) (s1 : Sd ks) (s2 : Sd js) (h : ∀ p, within p ks = within p js) : ks = js :=
  sd_eq s1 s2 (nd_of_keys n1) (nd_of_keys n2) fun m => by rw [mem_within n1, mem_within n2, h, h]
end MM
namespace MM
open PySem L2 PySem.W
noncomputable section
theorem intsV_at {n i : Nat} {lo : Int} {x : Val} (h : (intsV lo n)[i]? = some x) : i < n ∧ x = .int (lo + (i : Nat)) := by
  simp only [intsV] at h
  by_cases hi : i < n
  · simp [hi] at h; exact ⟨hi, h.symm⟩
  · simp [hi] at h
/-- known together, forgetting how -/
def mksOf : List Val → Option (List Mk)
  | [] => some []
  | x :: xs => match isMk x, mksOf xs with
    | some m, some ms => some (m :: ms)
    | _, _ => none
theorem mksOf_map (ms : List Mk) : mksOf (ms.map eM) = some ms := by
  induction ms with
  | nil => rfl
  | cons m ms ih => simp [mksOf, isMk_eM, ih]
theorem mksOf_eq {xs : List Val} {ms : List Mk} (e : mksOf xs = some ms) : xs = ms.map eM := by
  induction xs generalizing ms with
  | nil => cases e; rfl
  | cons x xs ih =>
    simp only [mksOf] at e
    split at e
    · rename_i m ms' e1 e2
      cases e
      rw [List.map_cons, eM_of e1, ih e2]
    · cases e
theorem tup_mks {v : Val} {a : List Mk} (e : (tupL v).bind mksOf = some a) : tupL v = some (a.map eM) := by
  cases e1 : tupL v with
  | none => rw [e1] at e; cases e
  | some xs => rw [e1] at e; rw [mksOf_eq (xs := xs) e]
abbrev Wd := Mk × Str
def eW (p : Wd) : Val := .tup [eM p.1, .str p.2]
def okW (xs : List Wd) : Prop := ∀ x ∈ xs, PyData.strOk x.2 = true
def kept (mine yours : List Wd) (ks : List Mk) : List Wd := mine.filter fun p => decide (p ∈ yours) || !within p.1 ks
end
end MM
namespace MM
open PySem L2 PySem.W
noncomputable section
def joinW (x : List Wd) (kx : List Mk) (y : List Wd) (ky : List Mk) : List Wd := kept x y ky ++ (kept y x kx).filter fun p => decide (p ∉ kept x y ky)
theorem mem_joinW {x y : List Wd} {kx ky : List Mk} {p : Wd} : p ∈ joinW x kx y ky ↔ (p ∈ x ∧ (p ∈ y ∨ within p.1 ky = false)) ∨ (p ∈ y ∧ (p ∈ x ∨ within p.1 kx = false)) := by
  have e1 : p ∈ kept x y ky ↔ p ∈ x ∧ (p ∈ y ∨ within p.1 ky = false) := by simp [kept]
  have e2 : p ∈ kept y x kx ↔ p ∈ y ∧ (p ∈ x ∨ within p.1 kx = false) := by simp [kept]
  unfold joinW
  rw [List.mem_append, List.mem_filter, decide_eq_true_eq, e2, e1]
  constructor
  · rintro (h | h)
    · exact .inl h
    · exact .inr h.1
  · rintro (h | h)
    · exact .inl h
    · by_cases q : p ∈ x ∧ (p ∈ y ∨ within p.1 ky = false)
      · exact .inl q
      · exact .inr ⟨h, q⟩
theorem kept_len {x y : List Wd} {k : List Mk} : (kept x y k).length ≤ x.length := List.length_filter_le _ _
theorem joinW_len {x y : List Wd} {kx ky : List Mk} : (joinW x kx y ky).length ≤ x.length + y.length := by
  unfold joinW
  have h1 := kept_len (x := x) (y := y) (k := ky)
  have h2 := kept_len (x := y) (y := x) (k := kx)
  have h3 := List.length_filter_le (fun p => decide (p ∉ kept x y ky)) (kept y x kx)
  rw [List.length_append]; omega
theorem joinW_nd {x y : List Wd} {kx ky : List Mk} (hx : x.Nodup) (hy : y.Nodup) : (joinW x kx y ky).Nodup := by
  unfold joinW
  rw [List.nodup_append]
  refine ⟨hx.filter _, (hy.filter _).filter _, fun a ha b hb => ?_⟩
  rw [List.mem_filter, decide_eq_true_eq] at hb
  rintro rfl
  exact hb.2 ha
theorem okW_sub {xs ys : List Wd} (h : okW xs) (hs : ∀ p ∈ ys, p ∈ xs) : okW ys := fun p hp => h p (hs p hp)
theorem okW_srt {xs : List Wd} (h : okW xs) : okW (srt xs) := okW_sub h fun p hp => srt_mem.mp hp
theorem joinW_ok {x y : List Wd} {kx ky : List Mk} (hx : okW x) (hy : okW y) : okW (joinW x kx y ky) := fun p hp => by
  rcases mem_joinW.mp hp with h | h
  · exact hx p h.1
  · exact hy p h.1
structure Fl where
  id : Mk
  first : Str
  known : List Mk
  names : List Wd
  texts : List Wd
def eFk (f : Fl) (k : Val) : Val := .tup [eM f.id, .str f.first, k, .tup (f.names.map eW), .tup (f.texts.map eW)]
def eP (f : Fl) : Val := eFk f (.ptup (f.known.map eM))
def eT (f : Fl) : Val := eFk f (.tup (f.known.map eM))
/-- marked things as a file has them -/
structure Wfw (n : Nat) (ks : List Mk) (xs : List Wd) : Prop where
  nd : xs.Nodup
  sd : Sd xs
  ok : okW xs
  wi : ∀ p ∈ xs, within p.1 ks = true
  len : xs.length ≤ n
structure Wff (w : Mk) (x : Str) (n : Nat) (f : Fl) : Prop where
  id : f.id = w
  first : f.first = x
  nd : (f.known.map (·.1)).Nodup
  pos : ∀ m ∈ f.known, 0 < m.2
  sd : Sd f.known
  len : f.known.length ≤ n
  names : Wfw n f.known f.names
  texts : Wfw n f.known f.texts
def joinF (a b : Fl) : Fl := ⟨a.id, a.first, srt (joinK a.known b.known), srt (joinW a.names a.known b.names b.known), srt (joinW a.texts a.known b.texts b.known)⟩
theorem within_joinK {a b : List Mk} (nd : (a.map (·.1)).Nodup) (hb : ∀ m ∈ b, 0 < m.2) {p : Mk} : within p (srt (joinK a b)) = (within p a || within p b) := by rw [within_srt, joinK_within hb nd]
theorem Wfw.join {n m : Nat} {a b : List Mk} {x y : List Wd} (nd : (a.map (·.1)).Nodup) (hb : ∀ m ∈ b, 0 < m.2) (hx : Wfw n a x) (hy : Wfw m b y) : Wfw (n + m) (srt (joinK a b)) (srt (joinW x a y b)) := by
  refine ⟨srt_nd (joinW_nd hx.nd hy.nd), srt_srt _, okW_srt (joinW_ok hx.ok hy.ok), fun p hp => ?_, ?_⟩
  · rw [within_joinK nd hb]
    rcases mem_joinW.mp (srt_mem.mp hp) with h | h
    · rw [hx.wi p h.1]; rfl
    · rw [hy.wi p h.1]; simp
  · rw [srt_len]
    have := joinW_len (x := x) (y := y) (kx := a) (ky := b)
    have := hx.len; have := hy.len
    omega
theorem Wff.join {w : Mk} {x : Str} {n m : Nat} {a b : Fl} (ha : Wff w x n a) (hb : Wff w x m b) : Wff w x (n + m) (joinF a b) := by
  refine ⟨ha.id, ha.first, keys_srt (joinK_keys ha.nd), fun k hk => joinK_pos hb.pos ha.pos k (srt_mem.mp hk), srt_srt _, ?_, Wfw.join ha.nd hb.pos ha.names hb.names, Wfw.join ha.nd hb.pos ha.texts hb.texts⟩
  show (srt _).length ≤ _
  rw [srt_len]
  have := joinK_len (a := a.known) (b := b.known)
  have := ha.len; have := hb.len
  omega
structure IsW (S : List Fl) (g : Fl → List Wd) (xs : List Wd) : Prop where
  mem : ∀ p, p ∈ xs ↔ (∃ f ∈ S, p ∈ g f) ∧ ∀ f ∈ S, p ∈ g f ∨ within p.1 f.known = false
structure IsJ (S : List Fl) (F : Fl) : Prop where
  known : ∀ p, within p F.known = true ↔ ∃ f ∈ S, within p f.known = true
  names : IsW S (·.names) F.names
  texts : IsW S (·.texts) F.texts
theorem IsW.join {S T : List Fl} {F G : Fl} {g : Fl → List Wd} {xs ys : List Wd} (hF : ∀ p, within p F.known = true ↔ ∃ f ∈ S, within p f.known = true) (hG : ∀ p, within p G.known = true ↔ ∃ f ∈ T, within p f.known = true)
    (wS : ∀ f ∈ S, ∀ p ∈ g f, within p.1 f.known = true) (wT : ∀ f ∈ T, ∀ p ∈ g f, within p.1 f.known = true) (hx : IsW S g xs) (hy : IsW T g ys) : IsW (S ++ T) g (srt (joinW xs F.known ys G.known)) := by
  refine ⟨fun p => ?_⟩
  have hFp := hF p.1
  have hGp := hG p.1
  rw [srt_mem, mem_joinW, hx.mem, hy.mem]
  have eF : within p.1 F.known = false ↔ ∀ f ∈ S, within p.1 f.known = false := by
    rw [← Bool.not_eq_true, hFp]
    simp
  have eG : within p.1 G.known = false ↔ ∀ f ∈ T, within p.1 f.known = false := by
    rw [← Bool.not_eq_true, hGp]
    simp
  rw [eF, eG]
  constructor
  · rintro (⟨⟨⟨f, hf, pf⟩, b1⟩, h | h⟩ | ⟨⟨⟨f, hf, pf⟩, b1⟩, h | h⟩)
    · exact ⟨⟨f, List.mem_append_left _ hf, pf⟩, fun k hk => (List.mem_append.mp hk).elim (b1 k) (h.2 k)⟩
    · exact ⟨⟨f, List.mem_append_left _ hf, pf⟩, fun k hk => (List.mem_append.mp hk).elim (b1 k) fun q => .inr (h k q)⟩
    · exact ⟨⟨f, List.mem_append_right _ hf, pf⟩, fun k hk => (List.mem_append.mp hk).elim (h.2 k) (b1 k)⟩
    · exact ⟨⟨f, List.mem_append_right _ hf, pf⟩, fun k hk => (List.mem_append.mp hk).elim (fun q => .inr (h k q)) (b1 k)⟩
  · rintro ⟨⟨f, hf, pf⟩, b⟩
    have bS : ∀ k ∈ S, p ∈ g k ∨ within p.1 k.known = false := fun k hk => b k (List.mem_append_left _ hk)
    have bT : ∀ k ∈ T, p ∈ g k ∨ within p.1 k.known = false := fun k hk => b k (List.mem_append_right _ hk)
    rcases List.mem_append.mp hf with hf | hf
    · refine .inl ⟨⟨⟨f, hf, pf⟩, bS⟩, ?_⟩
      by_cases q : ∃ k ∈ T, p ∈ g k
      · exact .inl ⟨q, bT⟩
      · exact .inr fun k hk => (bT k hk).resolve_left fun z => q ⟨k, hk, z⟩
    · refine .inr ⟨⟨⟨f, hf, pf⟩, bT⟩, ?_⟩
      by_cases q : ∃ k ∈ S, p ∈ g k
      · exact .inl ⟨q, bS⟩
      · exact .inr fun k hk => (bS k hk).resolve_left fun z => q ⟨k, hk, z⟩
/-- a file, and what files it came from -/
structure Led (w : Mk) (x : Str) (n : Nat) (S : List Fl) (F : Fl) : Prop where
  wf : Wff w x n F
  all : ∀ f ∈ S, ∃ m, Wff w x m f
  isJ : IsJ S F
theorem Led.join {w : Mk} {x : Str} {n m : Nat} {S T : List Fl} {F G : Fl} (hF : Led w x n S F) (hG : Led w x m T G) : Led w x (n + m) (S ++ T) (joinF F G) := by
  refine ⟨hF.wf.join hG.wf, fun f hf => (List.mem_append.mp hf).elim (hF.all f) (hG.all f), ⟨fun p => ?_, ?_, ?_⟩⟩
  · show within p (srt (joinK F.known G.known)) = true ↔ _
    rw [within_joinK hF.wf.nd hG.wf.pos, Bool.or_eq_true, hF.isJ.known, hG.isJ.known]
    constructor
    · rintro (⟨f, h1, h2⟩ | ⟨f, h1, h2⟩)
      · exact ⟨f, List.mem_append_left _ h1, h2⟩
      · exact ⟨f, List.mem_append_right _ h1, h2⟩
    · rintro ⟨f, h1, h2⟩
      exact (List.mem_append.mp h1).elim (fun q => .inl ⟨f, q, h2⟩) fun q => .inr ⟨f, q, h2⟩
  · exact IsW.join hF.isJ.known hG.isJ.known (fun f hf p hp => by obtain ⟨k, q⟩ := hF.all f hf; exact q.names.wi p hp) (fun f hf p hp => by obtain ⟨k, q⟩ := hG.all f hf; exact q.names.wi p hp) hF.isJ.names hG.isJ.names
  · exact IsW.join hF.isJ.known hG.isJ.known (fun f hf p hp => by obtain ⟨k, q⟩ := hF.all f hf; exact q.texts.wi p hp) (fun f hf p hp => by obtain ⟨k, q⟩ := hG.all f hf; exact q.texts.wi p hp) hF.isJ.texts hG.isJ.texts
theorem IsW.same {S T : List Fl} {g : Fl → List Wd} {xs ys : List Wd} (h : ∀ f, f ∈ S ↔ f ∈ T) (hx : IsW S g xs) (hy : IsW T g ys) (p : Wd) : p ∈ xs ↔ p ∈ ys := by
  rw [hx.mem, hy.mem]
  simp only [h]
theorem Led.same {w : Mk} {x : Str} {n m : Nat} {S T : List Fl} {F G : Fl} (hF : Led w x n S F) (hG : Led w x m T G) (h : ∀ f, f ∈ S ↔ f ∈ T) : F = G := by
  have e1 : F.known = G.known := known_eq hF.wf.nd hG.wf.nd hF.wf.sd hG.wf.sd fun p => by
    rw [Bool.eq_iff_iff, hF.isJ.known, hG.isJ.known]
    simp only [h]
  have e2 : F.names = G.names := sd_eq hF.wf.names.sd hG.wf.names.sd hF.wf.names.nd hG.wf.names.nd (IsW.same h hF.isJ.names hG.isJ.names)
  have e3 : F.texts = G.texts := sd_eq hF.wf.texts.sd hG.wf.texts.sd hF.wf.texts.nd hG.wf.texts.nd (IsW.same h hF.isJ.texts hG.isJ.texts)
  have e4 : F.id = G.id := hF.wf.id.trans hG.wf.id.symm
  have e5 : F.first = G.first := hF.wf.first.trans hG.wf.first.symm
  cases F; cases G
  simp only at e1 e2 e3 e4 e5
  subst e1 e2 e3 e4 e5
  rfl
end
end MM
namespace MM
open PySem L2 PySem.W
noncomputable section
def m_law_marked_f0 : SM := sSeq (sAsg (e2 vIx (eVar 1) (eCall m_law_mix (aCons (e2 vAdd (eVar 0) (e2 vMul (eC (.int 7)) (eVar 5))) (aCons (eC (.int 9887)) (aCons (eBi bLen (aCons (eVar 1) (aNil))) (aNil)))))) (gTp 2 (gsCons (gNm 6) (gsCons (gNm 7) (gsNil)))))
  (sSeq (sAsg (eDisp mkTup (aCons (eVar 6) (aCons (e2 vAdd (eC (.int 1)) (eCall m_law_mix (aCons (e2 vAdd (eVar 0) (e2 vMul (eC (.int 11)) (eVar 5))) (aCons (eC (.int 9883)) (aCons (eVar 7) (aNil)))))) (aNil)))) (gNm 8))
  (sSeq (sAsg (e2 vAdd (e2 vAdd (eVar 3) (e2 vMul (eC (.int 97)) (e2 vIx (eVar 8) (eC (.int 0))))) (e2 vMul (eC (.int 13)) (e2 vIx (eVar 8) (eC (.int 1))))) (gNm 9))
  (sSeq (sSub (eVar 4) (eVar 8) (eCall m_law_name (aCons (eVar 9) (aNil))))
  (sIf (tOf (e2 vEq (eVar 2) (eC (.int 1)))) (sSub (eVar 4) (eVar 8) (eCall m_law_text (aCons (eVar 9) (aNil)))) (sNil)))))
def m_law_marked : FM := mF 10 (sSeq (sAsg (eDictT) (gNm 4))
  (sSeq (sFor (iArgs rng1 (aCons (eCall m_law_mix (aCons (eVar 0) (aCons (eC (.int 9901)) (aCons (eC (.int 4)) (aNil))))) (aNil))) (gNm 5) m_law_marked_f0)
  (sRet (eBi bTuple (aCons (eLc (iVal (eBi bSorted (aCons (eVar 4) (aNil)))) (gNm 8) (tYesM) (eDisp mkTup (aCons (eVar 8) (aCons (e2 vIx (eVar 4) (eVar 8)) (aNil)))) [8] frozen) (aNil))))))
theorem strOk_sg {l : List Nat} (h : ∀ c ∈ l, c < 1114112) : PyData.strOk (sg l) = true := by
  show (sg l).cps.all (· < 0x110000) = true
  simp only [sg, List.all_toArray, List.all_eq_true, decide_eq_true_eq]
  exact h
theorem lname_ok (c : Int) : PyData.strOk (sg (lname c)) = true := strOk_sg fun x hx => by
  have h := lname_mem hx
  have : ∀ y ∈ lets, y < 1114112 := by decide
  exact this x h
theorem ltext_mem {c : Int} {x : Nat} (h : x ∈ ltext c) : x ∈ signsT := by
  unfold ltext at h
  split at h
  · split at h
    · cases h
    · simp at h; subst h; decide
    · simp at h; rcases h with rfl | rfl | rfl <;> decide
  · exact drawn_mem (by decide) h
theorem ltext_ok (c : Int) : PyData.strOk (sg (ltext c)) = true := strOk_sg fun x hx => by
  have h := ltext_mem hx
  have : ∀ y ∈ signsT, y < 1114112 := by decide
  exact this x h
def wd (kind seed : Int) (m : Mk) : Str := if kind = 1 then sg (ltext (seed + 97 * m.1 + 13 * m.2)) else sg (lname (seed + 97 * m.1 + 13 * m.2))
theorem wd_ok {kind seed : Int} {m : Mk} : PyData.strOk (wd kind seed m) = true := by
  unfold wd; split
  · exact ltext_ok _
  · exact lname_ok _
def pickM (ks : List Mk) (i : Int) : Mk := (ks[i.toNat]?).getD (0, 0)
def markAt (c : Int) (ks : List Mk) (k : Nat) : Mk := ((pickM ks (mix (c + 7 * (k : Nat)) 9887 ks.length)).1, 1 + mix (c + 11 * (k : Nat)) 9883 (pickM ks (mix (c + 7 * (k : Nat)) 9887 ks.length)).2)
def putM (ms : List Mk) (m : Mk) : List Mk := if m ∈ ms then ms else ms ++ [m]
def marksTo (c : Int) (ks : List Mk) : Nat → List Mk
  | 0 => []
  | n + 1 => putM (marksTo c ks n) (markAt c ks n)
def kvT (kind seed : Int) (ms : List Mk) : List (List Key × Val) := ms.map fun m => ([.inl m.1, .inl m.2], .str (wd kind seed m))
theorem keyT_inj {a b : Mk} : ([Sum.inl a.1, Sum.inl a.2] : List Key) = [.inl b.1, .inl b.2] ↔ a = b := by
  constructor
  · intro e
    simp only [List.cons.injEq, Sum.inl.injEq, and_true] at e
    exact Prod.ext e.1 e.2
  · rintro rfl; rfl
theorem any_kvT {kind seed : Int} {ms : List Mk} {m : Mk} : ((kvT kind seed ms).any fun kv => decide (kv.1 = [.inl m.1, .inl m.2])) = decide (m ∈ ms) := by
  rw [Bool.eq_iff_iff]
  simp only [kvT, List.any_eq_true, List.mem_map, decide_eq_true_eq]
  constructor
  · rintro ⟨_, ⟨k, hk, rfl⟩, e⟩
    have := keyT_inj.mp e
    subst this; exact hk
  · intro h; exact ⟨_, ⟨m, h, rfl⟩, rfl⟩
theorem put_kvT {kind seed : Int} {ms : List Mk} {m : Mk} : putV (kvT kind seed ms) [.inl m.1, .inl m.2] (.str (wd kind seed m)) = kvT kind seed (putM ms m) := by
  unfold putV putM
  rw [any_kvT]
  by_cases h : m ∈ ms
  · rw [if_pos (by simpa using h), if_pos h]
    unfold kvT
    rw [List.map_map]
    refine List.map_congr_left fun k hk => ?_
    simp only [Function.comp]
    by_cases e : k = m
    · subst e; simp
    · rw [if_neg fun q => e (keyT_inj.mp q)]
  · rw [if_neg (by simpa using h), if_neg h]
    simp [kvT]
theorem put_put {κ : Type} [DecidableEq κ] {kvs : List (κ × Val)} {k : κ} {v v' : Val} : putV (putV kvs k v) k v' = putV kvs k v' := by
  have a1 : ((putV kvs k v).any fun kv => decide (kv.1 = k)) = true := by
    rw [List.any_eq_true]
    unfold putV
    split
    · rename_i h
      rw [List.any_eq_true] at h
      obtain ⟨q, hq, e⟩ := h
      exact ⟨(q.1, v), List.mem_map.mpr ⟨q, hq, if_pos (by simpa using e)⟩, by simpa using e⟩
    · exact ⟨(k, v), by simp, by simp⟩
  show (if _ then _ else _) = _
  rw [if_pos a1]
  unfold putV
  split
  · rw [List.map_map]
    refine List.map_congr_left fun q hq => ?_
    simp only [Function.comp]
    by_cases e : q.1 = k <;> simp [e]
  · rename_i h
    rw [List.map_append]
    congr 1
    · conv => rhs; rw [← List.map_id kvs]
      refine List.map_congr_left fun q hq => ?_
      have : ¬ q.1 = k := fun e => h (List.any_eq_true.mpr ⟨q, hq, by simpa using e⟩)
      simp [this]
    · simp
theorem putM_nd {ms : List Mk} {m : Mk} (h : ms.Nodup) : (putM ms m).Nodup := by
  unfold putM
  split
  · exact h
  · rename_i hm
    rw [List.nodup_append]
    refine ⟨h, by simp, fun a ha b hb => ?_⟩
    simp at hb; subst hb
    rintro rfl; exact hm ha
theorem marksTo_nd {c : Int} {ks : List Mk} : ∀ {n : Nat}, (marksTo c ks n).Nodup
  | 0 => List.nodup_nil
  | n + 1 => putM_nd marksTo_nd
theorem putM_len {ms : List Mk} {m : Mk} : (putM ms m).length ≤ ms.length + 1 := by
  unfold putM; split <;> simp
theorem marksTo_len {c : Int} {ks : List Mk} : ∀ {n : Nat}, (marksTo c ks n).length ≤ n
  | 0 => Nat.le_refl _
  | n + 1 => by
    have h1 := marksTo_len (c := c) (ks := ks) (n := n)
    have h2 := putM_len (ms := marksTo c ks n) (m := markAt c ks n)
    show (putM _ _).length ≤ _
    omega
theorem marksTo_mem {c : Int} {ks : List Mk} {m : Mk} : ∀ {n : Nat}, m ∈ marksTo c ks n → ∃ k, m = markAt c ks k
  | 0, h => by cases h
  | n + 1, h => by
    have h : m ∈ putM (marksTo c ks n) (markAt c ks n) := h
    unfold putM at h
    split at h
    · exact marksTo_mem h
    · rcases List.mem_append.mp h with h | h
      · exact marksTo_mem h
      · rw [List.mem_singleton] at h; exact ⟨n, h⟩
theorem pickM_mem {ks : List Mk} {i : Int} (h0 : 0 ≤ i) (h1 : i < ks.length) : pickM ks i ∈ ks := by
  have : i.toNat < ks.length := by omega
  simp [pickM, this]
theorem markAt_within {c : Int} {ks : List Mk} {k : Nat} (hne : 0 < ks.length) (hp : ∀ m ∈ ks, 0 < m.2) : within (markAt c ks k) ks = true := by
  have h0 := mix_nn (c := c + 7 * (k : Nat)) (p := 9887) (m := (ks.length : Nat)) (by omega)
  have h1 := mix_lt (c := c + 7 * (k : Nat)) (p := 9887) (m := (ks.length : Nat)) (by omega)
  have hm := pickM_mem (ks := ks) h0 h1
  have hq := hp _ hm
  have h2 := mix_lt (c := c + 11 * (k : Nat)) (p := 9883) hq
  unfold within markAt
  rw [List.any_eq_true]
  exact ⟨_, hm, by simp; omega⟩
def lmarked (c : Int) (ks : List Mk) (kind seed : Int) : List Wd := (srt (marksTo c ks (mix c 9901 4).toNat)).map fun m => (m, wd kind seed m)
theorem lmarked_wf {c : Int} {ks : List Mk} {kind seed : Int} (hne : 0 < ks.length) (hp : ∀ m ∈ ks, 0 < m.2) : Wfw 3 ks (lmarked c ks kind seed) := by
  have nd := marksTo_nd (c := c) (ks := ks) (n := (mix c 9901 4).toNat)
  have pw : List.Pairwise (fun a b : Wd => DatumOrd.lt a b = true) (lmarked c ks kind seed) := by
    unfold lmarked
    rw [List.pairwise_map]
    have h1 := srt_pw (marksTo c ks (mix c 9901 4).toNat)
    have h2 : List.Pairwise (fun a b => a ≠ b) (srt (marksTo c ks (mix c 9901 4).toNat)) := srt_nd nd
    refine (h1.and h2).imp fun {a b} h => ?_
    rw [lt_pair, if_neg h.2]
    cases e : DatumOrd.lt a b with
    | true => rfl
    | false => exact absurd (EncO.tri a b e h.1) h.2
  refine ⟨?_, sd_of_pw pw, fun p hp' => ?_, fun p hp' => ?_, ?_⟩
  · refine pw.imp fun {a b} h e => ?_
    subst e
    rw [lt_irr] at h; cases h
  · unfold lmarked at hp'
    obtain ⟨m, _, rfl⟩ := List.mem_map.mp hp'
    exact wd_ok
  · unfold lmarked at hp'
    obtain ⟨m, hm, rfl⟩ := List.mem_map.mp hp'
    obtain ⟨k, rfl⟩ := marksTo_mem (srt_mem.mp hm)
    exact markAt_within hne hp
  · have h1 := marksTo_len (c := c) (ks := ks) (n := (mix c 9901 4).toNat)
    have h2 := mix_lt (c := c) (p := 9901) (m := 4) (by decide)
    simp only [lmarked, List.length_map, srt_len]
    omega
theorem sorted_dT {kvs : List (List Key × Val)} {ms : List Mk} {n : Nat} {h : HM} (hn : h[n]? = some (.dT kvs)) (e : (kvs.map fun p => Val.tup (p.1.map keyV)) = ms.map eM) (hl : ms.length ≤ 1000000) :
    bSorted [.ref n] h = .ok (.lst ((srt ms).map eM)) h := by
  have e1 : sortItems (.ref n) h = some (ms.map eM) := by simp only [sortItems, hn, e]
  have e2 : datFs (ms.map eM) = some (ms.map Datum.toD) := datFs_map ms
  have e3 : sortV (ms.map eM) (ms.map Datum.toD) = (srt ms).map eM := sortV_enc ms
  simp only [bSorted, e1, e2, if_pos (canSort (sortable_pair ms) hl (by decide)), e3]
theorem getK_kvT {kind seed : Int} {ms : List Mk} {m : Mk} (hm : m ∈ ms) : getK (kvT kind seed ms) [.inl m.1, .inl m.2] = some (.str (wd kind seed m)) := by
  unfold getK kvT
  induction ms with
  | nil => cases hm
  | cons k ms ih =>
    simp only [List.map_cons, List.find?_cons]
    by_cases e : k = m
    · subst e; simp
    · rw [decide_eq_false fun q => e (keyT_inj.mp q)]
      exact ih ((List.mem_cons.mp hm).resolve_left fun q => e q.symm)
theorem at_marked {c kind seed : Int} {ks : List Mk} {v : Val} {h : HM} (hv : tupL v = some (ks.map eM)) (hne : 0 < ks.length) (hl : ks.length ≤ 1000) (hp : ∀ m ∈ ks, 0 < m.2) :
    m_law_marked [.int c, v, .int kind, .int seed] h = .ok (.tup ((lmarked c ks kind seed).map eW)) (h ++ [.dT (kvT kind seed (marksTo c ks (mix c 9901 4).toNat))]) := by
  have h7 : ∀ (k : Int) (h : HM), vMul (.int 7) (.int k) h = .ok (.int (7 * k)) h := fun k h => ev_mulI (.inl (by decide))
  have h11 : ∀ (k : Int) (h : HM), vMul (.int 11) (.int k) h = .ok (.int (11 * k)) h := fun k h => ev_mulI (.inl (by decide))
  have h97 : ∀ (k : Int) (h : HM), vMul (.int 97) (.int k) h = .ok (.int (97 * k)) h := fun k h => ev_mulI (.inl (by decide))
  have h13 : ∀ (k : Int) (h : HM), vMul (.int 13) (.int k) h = .ok (.int (13 * k)) h := fun k h => ev_mulI (.inl (by decide))
  have hlen : ∀ h, bLen [v] h = .ok (.int ks.length) h := fun h => by rw [len_tup hv]; simp
  have n0 := mix_nn (c := c) (p := 9901) (m := 4) (by decide)
  have n1 := mix_lt (c := c) (p := 9901) (m := 4) (by decide)
  generalize hN : mix c 9901 4 = N at n0 n1
  obtain ⟨l', h', e, ⟨a5, a6, a7, a8, a9, e1, e2⟩⟩ := for_inv (xs := intsV 0 N.toNat) (g := gNm 5) (b := m_law_marked_f0) (l := [some (.int c), some v, some (.int kind), some (.int seed), some (.ref (List.length h)), none, none, none, none, none]) (h := h ++ [.dT []])
    (fun i l h' => ∃ a5 a6 a7 a8 a9, l = [some (.int c), some v, some (.int kind), some (.int seed), some (.ref (List.length h)), a5, a6, a7, a8, a9] ∧ h' = h ++ [.dT (kvT kind seed (marksTo c ks i))]) ⟨_, _, _, _, _, rfl, rfl⟩ (by
    rintro i x l h' hx ⟨a5, a6, a7, a8, a9, rfl, rfl⟩
    obtain ⟨hi, rfl⟩ := intsV_at hx
    rw [Int.zero_add]
    have hms := marksTo_len (c := c) (ks := ks) (n := i)
    have pu := put_kvT (kind := kind) (seed := seed) (ms := marksTo c ks i) (m := markAt c ks i)
    have pl : (putM (marksTo c ks i) (markAt c ks i)).length ≤ i + 1 := Nat.le_trans putM_len (by omega)
    show ∃ l1 l2 h2, _ ∧ _ ∧ ∃ a5 a6 a7 a8 a9, _ ∧ h2 = h ++ [.dT (kvT kind seed (putM (marksTo c ks i) (markAt c ks i)))]
    generalize marksTo c ks i = ms at hms pu pl
    have k0 := mix_nn (c := c + 7 * (i : Nat)) (p := 9887) (m := (ks.length : Nat)) (by omega)
    have k1 := mix_lt (c := c + 7 * (i : Nat)) (p := 9887) (m := (ks.length : Nat)) (by omega)
    have em : markAt c ks i = ((pickM ks (mix (c + 7 * (i : Nat)) 9887 ks.length)).1, 1 + mix (c + 11 * (i : Nat)) 9883 (pickM ks (mix (c + 7 * (i : Nat)) 9887 ks.length)).2) := rfl
    have hq := hp _ (pickM_mem k0 k1)
    have ix : ∀ h, vIx v (.int (mix (c + 7 * (i : Nat)) 9887 ks.length)) h = .ok (eM (pickM ks (mix (c + 7 * (i : Nat)) 9887 ks.length))) h := fun h => by
      have hh : (mix (c + 7 * (i : Nat)) 9887 ks.length).toNat < ks.length := by omega
      have : vIx v (.int (mix (c + 7 * (i : Nat)) 9887 ks.length)) h = ofO (atI (ks.map eM) (mix (c + 7 * (i : Nat)) 9887 ks.length)) h := by
        cases v <;> first | (cases hv; rfl) | cases hv
      rw [this, atI_nat k0]; simp [hh, ofO, pickM]
    generalize pickM ks (mix (c + 7 * (i : Nat)) 9887 ks.length) = pk at em hq ix
    have m1 : ∀ h, m_law_mix [.int (c + 7 * (i : Nat)), .int 9887, .int ks.length] h = .ok (.int (mix (c + 7 * (i : Nat)) 9887 ks.length)) h := fun h => at_mix (by decide) (by omega)
    have m2 : ∀ h, m_law_mix [.int (c + 11 * (i : Nat)), .int 9883, .int pk.2] h = .ok (.int (mix (c + 11 * (i : Nat)) 9883 pk.2)) h := fun h => at_mix (by decide) (by omega)
    generalize markAt c ks i = mk at em pu pl
    subst em
    generalize mix (c + 11 * (i : Nat)) 9883 pk.2 = cn at pu pl m2
    have si : ∀ (kvs : List (List Key × Val)) (y : Val), kvs.length ≤ 100 → setI (.ref (List.length h)) (.tup [.int pk.1, .int (1 + cn)]) y (h ++ [.dT kvs]) = some (h ++ [.dT (putV kvs [.inl pk.1, .inl (1 + cn)] y)]) := fun kvs y hk => by
      simp only [setI, last_get, if_pos (show kvs.length < sizeLine by rw [sizeLine_eq]; omega), tkey, keysOf, keyOf, Option.map_some, last_set]
    have l1 : (kvT kind seed ms).length ≤ 100 := by simp only [kvT, List.length_map]; omega
    have l2 : ∀ y, (putV (kvT kind seed ms) [.inl pk.1, .inl (1 + cn)] y).length ≤ 100 := fun y => by
      unfold putV
      split
      · simp only [List.length_map]; exact l1
      · have : (kvT kind seed ms).length = ms.length := by simp [kvT]
        simp only [List.length_append, List.length_singleton]; omega
    refine ⟨_, [some (.int c), some v, some (.int kind), some (.int seed), some (.ref (List.length h)), some (.int (i : Nat)), some (.int pk.1), some (.int pk.2), some (.tup [.int pk.1, .int (1 + cn)]), some (.int (seed + 97 * pk.1 + 13 * (1 + cn)))], _, rfl, ?_, _, _, _, _, _, rfl, rfl⟩
    have x0 : ∀ h, vIx (.tup [.int pk.1, .int (1 + cn)]) (.int 0) h = .ok (.int pk.1) h := fun _ => rfl
    have x1 : ∀ h, vIx (.tup [.int pk.1, .int (1 + cn)]) (.int 1) h = .ok (.int (1 + cn)) h := fun _ => rfl
    rw [← pu]
    unfold m_law_marked_f0
    by_cases hk : kind = 1
    · have ew : wd kind seed (pk.1, 1 + cn) = sg (ltext (seed + 97 * pk.1 + 13 * (1 + cn))) := if_pos hk
      rw [ew]
      subst hk
      simp [h7, hlen, m1, ix, eM, h11, m2, h97, h13, x0, x1, at_name, at_text, sSub, si _ _ l1, si _ _ (l2 _), put_put]
    · have ew : wd kind seed (pk.1, 1 + cn) = sg (lname (seed + 97 * pk.1 + 13 * (1 + cn))) := if_neg hk
      rw [ew]
      simp [h7, hlen, m1, ix, eM, h11, m2, h97, h13, x0, x1, at_name, sSub, si _ _ l1, hk])
  have ils : (intsV 0 N.toNat).length = N.toNat := by simp [intsV]
  rw [ils] at e2
  have lms := marksTo_len (c := c) (ks := ks) (n := N.toNat)
  unfold m_law_marked mF
  simp [at_mix, hN, eDictT, ev_rng1 (show -(2 ^ 62) ≤ N ∧ N < 2 ^ 62 by omega)]
  rw [e, e1, e2]
  unfold lmarked
  rw [hN]
  generalize marksTo c ks N.toNat = ms at lms
  have so := sorted_dT (kvs := kvT kind seed ms) (ms := ms) (n := List.length h) (h := h ++ [.dT (kvT kind seed ms)]) last_get (by simp [kvT, eM, keyV]) (by omega)
  simp [so, srcOf]
  rw [lc_mapM (f := fun m => eW (m, wd kind seed m)) (fun m hm => ⟨_, rfl, by
    have g := getK_kvT (kind := kind) (seed := seed) (srt_mem.mp hm)
    simp [eM, eW, wipeL, vIx, dGet, tkey, keysOf, keyOf, g]⟩) (by rw [sizeLine_eq, srt_len]; omega)]
  simp [bTuple, seqL, Function.comp_def]
theorem allPos {ks : List Mk} : (ks.all fun m => decide (0 < m.2)) = true ↔ ∀ m ∈ ks, 0 < m.2 := by simp
def s_law_marked : FM := fun xs h => match xs with
  | [.int c, v, .int kind, .int seed] => (match (tupL v).bind mksOf with
    | some ks => if 0 < ks.length ∧ ks.length ≤ 1000 ∧ (ks.all fun m => decide (0 < m.2)) = true then .ok (.tup ((lmarked c ks kind seed).map eW)) h else .bad
    | none => .bad)
  | _ => .bad
theorem frz_wds {h : HM} {n : Nat} (ks : List Wd) : FrzS h n (ks.map eW) (ks.map eW) := by
  induction ks with
  | nil => exact .nil
  | cons k ks ih => exact .cons (.tup (.cons (.tup (.cons (.int _) (.cons (.int _) .nil))) (.cons (.str _) .nil))) ih
theorem le_law_marked (xs : List Val) (h : HM) (_ : xs.length = 4) (w : Wf h) (_ : CloS h.length xs) : Le h (s_law_marked xs h) (m_law_marked xs h) := by
  unfold s_law_marked
  split
  · split
    · rename_i ks e
      split
      · rename_i hh
        rw [at_marked (tup_mks e) hh.1 hh.2.1 (allPos.mp hh.2.2)]
        exact .pure w (.tup (frz_wds _))
      · exact .bad
    · exact .bad
  · exact .bad
theorem marked_ok {c kind seed : Int} {ks : List Mk} {v : Val} {h : HM} (hv : tupL v = some (ks.map eM)) (hne : 0 < ks.length) (hl : ks.length ≤ 1000) (hp : ∀ m ∈ ks, 0 < m.2) :
    s_law_marked [.int c, v, .int kind, .int seed] h = .ok (.tup ((lmarked c ks kind seed).map eW)) h := by
  simp only [s_law_marked, hv, Option.bind_some, mksOf_map]
  rw [if_pos ⟨hne, hl, allPos.mpr hp⟩]
end
end MM
namespace MM
open PySem L2 PySem.W
end MM
namespace MM
open PySem L2 PySem.W
noncomputable section
def m_law_file : FM := mF 5 (sSeq (sAsg (eCall s_law_known (aCons (eVar 0) (aCons (eVar 1) (aNil)))) (gNm 4))
  (sRet (eDisp mkTup (aCons (eVar 1) (aCons (eVar 2) (aCons (eVar 4) (aCons (eCall s_law_marked (aCons (e2 vAdd (eVar 0) (eC (.int 1))) (aCons (eVar 4) (aCons (eC (.int 0)) (aCons (eVar 3) (aNil)))))) (aCons (eCall s_law_marked (aCons (e2 vAdd (eVar 0) (eC (.int 2))) (aCons (eVar 4) (aCons (eC (.int 1)) (aCons (e2 vAdd (eVar 3) (eC (.int 5))) (aNil)))))) (aNil)))))))))
def lfile (c : Int) (w : Mk) (x : Str) (seed : Int) : Fl := ⟨w, x, lknown c w, lmarked (c + 1) (lknown c w) 0 seed, lmarked (c + 2) (lknown c w) 1 (seed + 5)⟩
theorem knownTo_pw {c : Int} {w : Mk} : ∀ {n : Nat}, List.Pairwise (fun a b : Mk => a.1 < b.1) (knownTo c w n)
  | 0 => by simp [knownTo]
  | n + 1 => by
    rw [knownTo_succ, List.pairwise_append]
    refine ⟨knownTo_pw, by split <;> simp, fun a ha b hb => ?_⟩
    obtain ⟨j, hj, e, _⟩ := knownTo_fst ha
    split at hb
    · rw [List.mem_singleton] at hb
      subst hb
      show a.1 < (n : Int)
      omega
    · cases hb
theorem lknown_sd {c : Int} {w : Mk} : Sd (lknown c w) := sd_of_pw ((knownTo_pw (c := c) (w := w) (n := 6)).imp fun {a b} h => by
  rw [lt_pair, if_neg (by omega)]
  simpa [DatumOrd.lt] using h)
theorem lknown_ne {c : Int} {w : Mk} (h0 : 0 ≤ w.1 ∧ w.1 < 6) (h1 : 0 < w.2) : 0 < (lknown c w).length := by
  obtain ⟨m, hm, _⟩ := lknown_own (c := c) h0 h1
  exact List.length_pos_of_mem hm
theorem at_file {c seed : Int} {w : Mk} {x : Str} {h : HM} (h0 : 0 ≤ w.1 ∧ w.1 < 6) (h1 : 0 < w.2) : m_law_file [.int c, eM w, .str x, .int seed] h = .ok (eP (lfile c w x seed)) h := by
  have hp : ∀ m ∈ lknown c w, 0 < m.2 := fun m hm => (lknown_pos hm).1
  have ll := lknown_len (c := c) (w := w)
  have k : ∀ h, s_law_known [.int c, eM w] h = .ok (.ptup ((lknown c w).map eM)) h := fun h => known_ok
  have m1 : ∀ h, s_law_marked [.int (c + 1), .ptup ((lknown c w).map eM), .int 0, .int seed] h = .ok (.tup ((lmarked (c + 1) (lknown c w) 0 seed).map eW)) h := fun h => marked_ok rfl (lknown_ne h0 h1) (by omega) hp
  have m2 : ∀ h, s_law_marked [.int (c + 2), .ptup ((lknown c w).map eM), .int 1, .int (seed + 5)] h = .ok (.tup ((lmarked (c + 2) (lknown c w) 1 (seed + 5)).map eW)) h := fun h => marked_ok rfl (lknown_ne h0 h1) (by omega) hp
  unfold m_law_file mF
  simp [k, m1, m2, eP, eFk, lfile]
theorem same_mks (ks : List Mk) : sameBs (ks.map eM) (ks.map eM) = true := by
  induction ks with
  | nil => simp [sameBs]
  | cons k ks ih => simp [sameBs, ih, eM, sameB, tupL]
theorem same_wds (ks : List Wd) : sameBs (ks.map eW) (ks.map eW) = true := by
  induction ks with
  | nil => simp [sameBs]
  | cons k ks ih => simp [sameBs, ih, eW, eM, sameB, tupL]
theorem pl_mks {d : Nat} (ks : List Mk) : (ks.map eM).all (pl (d + 1)) = true := by
  induction ks with
  | nil => rfl
  | cons k ks ih => rw [List.map_cons, List.all_cons, ih]; simp [eM, pl]
theorem pl_wds {d : Nat} {ks : List Wd} (ho : okW ks) : (ks.map eW).all (pl (d + 2)) = true := by
  induction ks with
  | nil => rfl
  | cons k ks ih => rw [List.map_cons, List.all_cons, ih fun p hp => ho p (List.mem_cons_of_mem _ hp)]; simp [eM, eW, pl, ho k List.mem_cons_self]
theorem pl_tupL {d : Nat} {k : Val} {xs : List Val} (hk : tupL k = some xs) (hl : xs.length ≤ 1000000) (h : xs.all (pl d) = true) : pl (d + 1) k = true := by
  cases k <;> first | (cases hk; done) | (cases hk; simp only [pl, h, hl, decide_true, Bool.and_self])
theorem sameB_tup {f e : Val} {xs ys : List Val} (hf : tupL f = some xs) (he : tupL e = some ys) : sameB f e = sameBs xs ys := by
  cases e <;> first | (cases he; done) | (cases he; simp only [sameB, hf])
theorem sameB_file {F : Fl} {k j : Val} (hk : tupL k = some (F.known.map eM)) (hj : tupL j = some (F.known.map eM)) : sameB (eFk F k) (eFk F j) = true := by
  rw [sameB_tup (f := eFk F k) (e := eFk F j) rfl rfl]
  have e1 : sameB k j = true := by rw [sameB_tup hk hj]; exact same_mks _
  have e2 : sameB (.tup (F.names.map eW)) (.tup (F.names.map eW)) = true := by rw [sameB_tup rfl rfl]; exact same_wds _
  have e3 : sameB (.tup (F.texts.map eW)) (.tup (F.texts.map eW)) = true := by rw [sameB_tup rfl rfl]; exact same_wds _
  have e4 : sameB (eM F.id) (eM F.id) = true := by simp [eM, sameB, sameBs, tupL]
  have e5 : sameB (.str F.first) (.str F.first) = true := by simp [sameB]
  simp only [sameBs, e1, e2, e3, e4, e5, Bool.and_self]
end
end MM
namespace MM
open PySem L2
section
variable {X : Cx} {G : Glob} {W : WX} {k i n : Nat} {x : Str} {p pos : Pos} {e : Expr} {es : List Expr} {ma : AM} {tab : Nat → Option FM}
/-- slot i holds the j-th def; tab: the mirrors of the defs that may stand there -/
def eCallV (i : Nat) (tab : Nat → Option FM) (as : AM) : EM := fun l h => match l[i]? with
  | some (some (.fn j)) => (match tab j with
    | some m => (as l h).bind fun xs h1 => match m xs h1 with
      | .ok v h2 => .ok v h2
      | _ => .bad
    | none => .bad)
  | _ => .bad
theorem me_callV (T : ∀ j m, tab j = some m → ∀ a, G.fn j = some a → FnM X.prog X.w X.K X.mg X.base G k a n m) (hr : Room k X.A) (tk : Takes X W) (ha : MA X G W (e :: es) ma) (hl : ALen ma n)
    (hN : X.N[i]? = some x := by rfl) (hv : Vis X.env.scope x := by first | exact Or.inl rfl | exact Or.inr (Or.inl rfl) | exact Or.inr (Or.inr rfl))
    (hdb : (x == ("__debug__" : Str)) = false := by decide) (hcd : (x == ("__classdict__" : Str)) = false := by decide)
    (he : starEach (e :: es) X.env = (false, eval e X.env) :: starEach es X.env := by rfl) (hpl : (backTo pos (starEach es X.env)).any (·.1) = false := by rfl) :
    ME X G W (.Call (.Name x p) (e :: es) [] pos) (eCallV i tab ma) := by
  refine ⟨fun pins s σ H Q I ⟨r, h, l, q, hl', pp⟩ => ?_⟩
  unfold eCallV at pp
  split at pp
  · rename_i j ej
    split at pp
    · rename_i m em
      obtain ⟨u, hu, z0⟩ := hl'.2 i _ ej
      cases z0 with
      | @fn _ a ga =>
        obtain ⟨fd, ps, F, hb, hk⟩ := T j m em a ga
        refine (pe_callL (E := fun _ _ _ => False) (dvs := []) (ds := []) F hr hN hv hk hb .nil (fun _ _ _ _ _ _ _ ⟨_, _, _, _, _, _, _, _, _, _, _, _, f⟩ => f.elim) ha hdb hcd he hpl).run pins s σ H Q I ⟨hu, r, h, l, q, hl', ?_⟩
        cases ea : ma l h with
        | ok xs h1 =>
          rw [ea] at pp
          refine fun r' H' vs e' q' z => ?_
          show spM G n m (vs ++ []) H' Q fun _ _ _ => False
          rw [List.append_nil]
          refine ⟨z.length.symm.trans (hl _ _ _ _ ea), r', h1, xs, q', z, ?_⟩
          have pp := Post.shift e' pp
          simp only [Res.bind_ok] at pp
          cases em2 : m xs h1 with
          | ok v h2 => rw [em2] at pp; exact pp
          | exc c h2 => rw [em2] at pp; exact pp.elim
          | bad => rw [em2] at pp; exact pp.elim
        | exc c h1 => rw [ea] at pp; exact pp
        | bad => rw [ea] at pp; exact pp
    · exact pp.elim
  · exact pp.elim
end
end MM
namespace MM
open PySem L2 PySem.Spec PyProof.Rows
/-- each thing once, in the order of its first place -/
def addU {κ : Type} [DecidableEq κ] (l : List κ) (k : κ) : List κ := if k ∈ l then l else l ++ [k]
def uniq {κ : Type} [DecidableEq κ] (xs : List κ) : List κ := xs.foldl addU []
section
variable {X : Cx} {G : Glob} {W : WX} {a : Expr} {me : EM} {p p2 q pos : Pos}
/-- len(set(xs)), xs a list of texts -/
def vLenSet (v : Val) (h : HM) : Res Val := match v with
  | .lst xs => (match strsOf xs with
    | some ys => if ys.length ≤ 1000 then .ok (.int (uniq ys).length) h else .bad
    | none => .bad)
  | _ => .bad
def eLenSet (m : EM) : EM := fun l h => (m l h).bind vLenSet
end
end MM
namespace MM
open PySem L2 PySem.W
end MM
namespace MM
open PySem L2 PySem.W
noncomputable section
@[simp] theorem ev_neg {m : EM} {l : Loc} {h : HM} : eNegM m l h = (m l h).bind fun v h1 => match v with | .int i => .ok (.int (-i)) h1 | _ => .bad := (rfl)
theorem ix_tupL {k : Val} {xs : List Val} {i : Int} {h : HM} (hk : tupL k = some xs) : vIx k (.int i) h = ofO (atI xs i) h := by
  cases k <;> first | (cases hk; done) | (cases hk; simp only [vIx])
theorem addT {xs ys : List Val} {h : HM} (hz : xs.length + ys.length ≤ 16777216) : vAdd (.tup xs) (.tup ys) h = .ok (.tup (xs ++ ys)) h := if_pos (by rw [sizeLine_eq]; exact hz)
@[simp] theorem ev_lenSet {m : EM} {l : Loc} {h : HM} : eLenSet m l h = (m l h).bind vLenSet := rfl
@[simp] theorem ev_eDfl {m : PyData → List PyData → PyData} {a d : EM} {l : Loc} {h : HM} : eDfl m a d l h = (a l h).bind fun x h1 => (d l h1).bind fun y h2 => vDfl m x y h2 := rfl
end
end MM
namespace MM
open PySem L2 PySem.W
section
variable {X : Cx} {G : Glob}
/-- a < b, data that are alike -/
def rLtD (K : PySem.W.Frag) : V → V → Hp → VK → Prop := fun x y H Q => ∃ d e : PyData, Dp K H x d ∧ Dp K H y e ∧ alike d e = true ∧ d ≠ .none ∧ d.depth ≤ 60 ∧ Q (.bl (dataLt d e)) H
theorem op_ltD (hu : X.A.units + 200 < cLine) : OpR X (compareOp .Lt) (rLtD X.K) := by
  intro pins s σ H x y v u Q I rx ry ⟨d, e, dx, dy, al, nn, dep, q⟩
  obtain ⟨as, ra⟩ := Dp.reads I d x v dx rx
  obtain ⟨bs, rb⟩ := Dp.reads I e y u dy ry
  exact lt_data ra rb al nn (by have := Nat.min_le_left d.depth e.depth; omega) ⟨.bl (dataLt d e), H, I, rfl, q⟩
open Classical in
noncomputable def vLtD (a b : Val) (h : HM) : Res Val := match datF a, datF b with
  | some d, some e => if alike d e = true ∧ d ≠ .none ∧ d.depth ≤ 60 then .ok (.bl (dataLt d e)) h else .bad
  | _, _ => .bad
theorem om_ltD (hu : X.A.units + 200 < cLine) : OpM X G (compareOp .Lt) vLtD := .of (op_ltD hu) fun W r h H s a b x y Q q za zb p => by
  unfold vLtD at p
  split at p
  · rename_i d e ed ee
    by_cases hs : alike d e = true ∧ d ≠ .none ∧ d.depth ≤ 60
    · rw [if_pos hs] at p
      exact ⟨d, e, datF_ok za ed, datF_ok zb ee, hs.1, hs.2.1, hs.2.2, Post.here q (.bl _) p⟩
    · rw [if_neg hs] at p; exact p.elim
  · exact p.elim
end
end MM
namespace MM
open PySem L2 PySem.W
noncomputable section
/-- the defs that are handed on as values -/
def tabFn : Nat → Option FM
  | 0 => some m_is_name
  | 1 => some m_is_text
  | _ => none
def m_is_rising : FM := mF 2 (sRet (eBi bAll (aCons (eLc (iArgs rng2 (aCons (eC (.int 1)) (aCons (eBi bLen (aCons (eVar 0) (aNil))) (aNil)))) (gNm 1) (tYesM) (e2 vLtD (e2 vIx (eVar 0) (e2 vSub (eVar 1) (eC (.int 1)))) (e2 vIx (eVar 0) (eVar 1))) [1] frozen) (aNil))))
def m_is_number : FM := mF 2 (sRet (eAndM (eBi bIsi (aCons (eVar 0) (aCons (eC (.ty "int")) (aNil)))) (eAndM (eNotM (eBi bIsi (aCons (eVar 0) (aCons (eC (.ty "bool")) (aNil))))) (e2 vGe (eVar 0) (eVar 1)))))
def m_is_mark : FM := mF 1 (sSeq (sIf (tOrM (tNotM (tTru (eBi bIsi (aCons (eVar 0) (aCons (eC (.ty "tuple")) (aNil)))))) (tOf (e2 vNe (eBi bLen (aCons (eVar 0) (aNil))) (eC (.int 2))))) (sRet (eC (.bl false))) (sNil))
  (sRet (eAndM (eCall m_is_number (aCons (e2 vIx (eVar 0) (eC (.int 0))) (aCons (eC (.int 0)) (aNil)))) (eAndM (e2 vLe (e2 vIx (eVar 0) (eC (.int 0))) (eC (.int 5))) (eCall m_is_number (aCons (e2 vIx (eVar 0) (eC (.int 1))) (aCons (eC (.int 1)) (aNil))))))))
def m_are_marked_f0 : SM := sIf (tOrM (tNotM (tTru (eBi bIsi (aCons (eVar 3) (aCons (eC (.ty "tuple")) (aNil)))))) (tOrM (tOf (e2 vNe (eBi bLen (aCons (eVar 3) (aNil))) (eC (.int 2)))) (tOrM (tNotM (tTru (eCall m_is_mark (aCons (e2 vIx (eVar 3) (eC (.int 0))) (aNil))))) (tNotM (tTru (eCallV 2 tabFn (aCons (e2 vIx (eVar 3) (eC (.int 1))) (aNil)))))))) (sRet (eC (.bl false))) (sNil)
def m_are_marked : FM := mF 7 (sSeq (sIf (tNotM (tTru (eBi bIsi (aCons (eVar 0) (aCons (eC (.ty "tuple")) (aNil)))))) (sRet (eC (.bl false))) (sNil))
  (sSeq (sFor (iVal (eVar 0)) (gNm 3) m_are_marked_f0)
  (sSeq (sAsg (eLc (iVal (eVar 0)) (gTp 2 (gsCons (gNm 5) (gsCons (gNm 6) (gsNil)))) (tYesM) (eVar 5) [5, 6] frozen) (gNm 4))
  (sRet (eAndM (eCall m_is_rising (aCons (eVar 4) (aNil))) (eCall m_has_heard (aCons (eVar 1) (aCons (eVar 4) (aNil)))))))))
def m_is_known : FM := mF 4 (sSeq (sIf (tOrM (tNotM (tTru (eBi bIsi (aCons (eVar 0) (aCons (eC (.ty "tuple")) (aNil)))))) (tNotM (tTru (eBi bAll (aCons (eLc (iVal (eVar 0)) (gNm 1) (tYesM) (eCall m_is_mark (aCons (eVar 1) (aNil))) [1] frozen) (aNil)))))) (sRet (eC (.bl false))) (sNil))
  (sRet (eCall m_is_rising (aCons (eLc (iVal (eVar 0)) (gTp 2 (gsCons (gNm 2) (gsCons (gNm 3) (gsNil)))) (tYesM) (eVar 2) [2, 3] frozen) (aNil)))))
def m_is_file : FM := mF 1 (sSeq (sIf (tOrM (tNotM (tTru (eBi bIsi (aCons (eVar 0) (aCons (eC (.ty "tuple")) (aNil)))))) (tOf (e2 vNe (eBi bLen (aCons (eVar 0) (aNil))) (eC (.int 5))))) (sRet (eC (.bl false))) (sNil))
  (sSeq (sIf (tOrM (tNotM (tTru (eCall m_is_mark (aCons (e2 vIx (eVar 0) (eC (.int 0))) (aNil))))) (tOrM (tNotM (tTru (eCall m_is_name (aCons (e2 vIx (eVar 0) (eC (.int 1))) (aNil))))) (tOrM (tNotM (tTru (eCall m_is_known (aCons (e2 vIx (eVar 0) (eC (.int 2))) (aNil))))) (tNotM (tTru (eCall m_is_within (aCons (e2 vIx (eVar 0) (eC (.int 0))) (aCons (e2 vIx (eVar 0) (eC (.int 2))) (aNil))))))))) (sRet (eC (.bl false))) (sNil))
  (sRet (eAndM (eCall m_are_marked (aCons (e2 vIx (eVar 0) (eC (.int 3))) (aCons (e2 vIx (eVar 0) (eC (.int 2))) (aCons (eC (.fn 0)) (aNil))))) (eCall m_are_marked (aCons (e2 vIx (eVar 0) (eC (.int 4))) (aCons (e2 vIx (eVar 0) (eC (.int 2))) (aCons (eC (.fn 1)) (aNil)))))))))
mutual
/-- a thing of the kinds that are asked about -/
def tame : Val → Bool
  | .non => true
  | .bl _ => true
  | .int _ => true
  | .str x => decide (x.length ≤ 1000000)
  | .tup xs => decide (xs.length ≤ 1000000) && tames xs
  | .ptup xs => decide (xs.length ≤ 1000000) && tames xs
  | .lst xs => decide (xs.length ≤ 1000000) && tames xs
  | _ => false
def tames : List Val → Bool
  | [] => true
  | x :: xs => tame x && tames xs
end
theorem tames_mem {xs : List Val} (h : tames xs = true) : ∀ x ∈ xs, tame x = true := by
  induction xs with
  | nil => intro x hx; cases hx
  | cons y ys ih =>
    simp only [tames, Bool.and_eq_true] at h
    intro x hx
    rcases List.mem_cons.mp hx with rfl | hx
    · exact h.1
    · exact ih h.2 x hx
theorem tame_isV {v : Val} (h : tame v = true) : isV v = true := by cases v <;> first | rfl | (simp [tame] at h)
theorem tame_ask {v : Val} {h : HM} (hv : tame v = true) : isAsk v h = true := by
  cases v <;> first | rfl | (simp [tame] at hv; done) | skip
  rename_i x
  simp only [tame, decide_eq_true_eq] at hv
  simp [isAsk, tyN, sizeLine_eq]; omega
theorem tame_tup {v : Val} {xs : List Val} (hv : tame v = true) (e : tupL v = some xs) : xs.length ≤ 1000000 ∧ ∀ x ∈ xs, tame x = true := by
  cases v <;> first
    | (cases e; done)
    | (cases e; simp only [tame, Bool.and_eq_true, decide_eq_true_eq] at hv; exact ⟨hv.1, tames_mem hv.2⟩)
theorem isi_tuple {v : Val} {h : HM} (hv : isV v = true) : bIsi [v, .ty "tuple"] h = .ok (.bl (tupL v).isSome) h := by
  rw [isi_tab hv (by decide)]
  cases v <;> first | rfl | cases hv
def numB (x : Val) (n : Int) : Bool := match x with
  | .int i => decide (n ≤ i)
  | _ => false
theorem at_isNumber {x : Val} {n : Int} {h : HM} (hx : isV x = true) : m_is_number [x, .int n] h = .ok (.bl (numB x n)) h := by
  have a : ∀ h, bIsi [x, .ty "int"] h = .ok (.bl (tyTab (tyV x) "int")) h := fun h => isi_tab hx (by decide)
  have b : ∀ h, bIsi [x, .ty "bool"] h = .ok (.bl (tyTab (tyV x) "bool")) h := fun h => isi_tab hx (by decide)
  unfold m_is_number mF
  cases x with
  | int i =>
    have e1 : tyTab (tyV (.int i)) "int" = true := by show tyTab "int" "int" = true; decide
    have e2 : tyTab (tyV (.int i)) "bool" = false := by show tyTab "int" "bool" = false; decide
    rw [e1] at a; rw [e2] at b
    simp [a, b, numB]
  | bl c =>
    have e1 : tyTab (tyV (.bl c)) "int" = true := by cases c <;> decide
    have e2 : tyTab (tyV (.bl c)) "bool" = true := by cases c <;> decide
    rw [e1] at a; rw [e2] at b
    simp [a, b, numB]
  | non => have e1 : tyTab (tyV .non) "int" = false := by decide
           rw [e1] at a; simp [a, numB]
  | str y => have e1 : tyTab (tyV (.str y)) "int" = false := by show tyTab "str" "int" = false; decide
             rw [e1] at a; simp [a, numB]
  | tup y => have e1 : tyTab (tyV (.tup y)) "int" = false := by show tyTab "tuple" "int" = false; decide
             rw [e1] at a; simp [a, numB]
  | ptup y => have e1 : tyTab (tyV (.ptup y)) "int" = false := by show tyTab "tuple" "int" = false; decide
              rw [e1] at a; simp [a, numB]
  | lst y => have e1 : tyTab (tyV (.lst y)) "int" = false := by show tyTab "list" "int" = false; decide
             rw [e1] at a; simp [a, numB]
  | _ => cases hx
/-- the mark that a thing is -/
def mkV (v : Val) : Option Mk := match tupL v with
  | some [.int a, .int b] => if 0 ≤ a ∧ a ≤ 5 ∧ 1 ≤ b then some (a, b) else none
  | _ => none
theorem at_isMark {v : Val} {h : HM} (hv : tame v = true) : m_is_mark [v] h = .ok (.bl (mkV v).isSome) h := by
  have a : ∀ h, bIsi [v, .ty "tuple"] h = .ok (.bl (tupL v).isSome) h := fun h => isi_tuple (tame_isV hv)
  unfold m_is_mark mF
  cases e : tupL v with
  | none =>
    have e2 : mkV v = none := by simp [mkV, e]
    rw [e] at a
    simp [a, e2]
  | some xs =>
    have b : ∀ h, bLen [v] h = .ok (.int xs.length) h := fun h => len_tup e
    rw [e] at a
    obtain ⟨_, tx⟩ := tame_tup hv e
    match xs, tx, e, b with
    | [x, y], tx, e, b =>
      have x0 : ∀ h, vIx v (.int 0) h = .ok x h := fun h => by rw [ix_tupL e]; rfl
      have x1 : ∀ h, vIx v (.int 1) h = .ok y h := fun h => by rw [ix_tupL e]; rfl
      have hx := tame_isV (tx x (by simp))
      have hy := tame_isV (tx y (by simp))
      have n0 : ∀ h, m_is_number [x, .int 0] h = .ok (.bl (numB x 0)) h := fun h => at_isNumber hx
      have n1 : ∀ h, m_is_number [y, .int 1] h = .ok (.bl (numB y 1)) h := fun h => at_isNumber hy
      simp [a, b, x0, x1, n0, n1]
      cases x with
      | int i =>
        cases y with
        | int j =>
          by_cases h0 : 0 ≤ i <;> by_cases h1 : i ≤ 5 <;> by_cases h2 : 1 ≤ j <;> simp [numB, mkV, e, h0, h1, h2]
        | _ => by_cases h0 : 0 ≤ i <;> by_cases h1 : i ≤ 5 <;> simp [numB, mkV, e, h0, h1]
      | _ => simp [numB, mkV, e]
    | [], tx, e, b => simp [a, b, mkV, e]
    | [x], tx, e, b => simp [a, b, mkV, e]
    | x :: y :: z :: t, tx, e, b =>
      have e2 : mkV v = none := by simp [mkV, e]
      obtain ⟨L, hL, bL⟩ : ∃ L : Int, ¬ L = 2 ∧ ∀ h, bLen [v] h = .ok (.int L) h := ⟨_, by simp only [List.length_cons]; omega, b⟩
      simp [a, bL, e2, hL]
theorem mkV_eM {m : Mk} (h0 : 0 ≤ m.1 ∧ m.1 ≤ 5) (h1 : 1 ≤ m.2) : mkV (eM m) = some m := by
  have e : tupL (eM m) = some [.int m.1, .int m.2] := rfl
  simp [mkV, e, h0, h1]
theorem mkV_some {v : Val} {m : Mk} (e : mkV v = some m) : tupL v = some [.int m.1, .int m.2] ∧ 0 ≤ m.1 ∧ m.1 ≤ 5 ∧ 1 ≤ m.2 := by
  unfold mkV at e
  split at e
  · rename_i a b h
    split at e
    · rename_i hh
      cases e
      exact ⟨h, hh⟩
    · cases e
  · cases e
section
variable {α : Type} [DecidableEq α] [EncO α]
def risB (xs : List α) : Bool := (List.range (xs.length - 1)).all fun i => match xs[i]?, xs[i + 1]? with
  | some a, some b => DatumOrd.lt a b
  | _, _ => false
theorem ltD_enc {a b : α} {h : HM} (hd : Datum.depth α ≤ 50) : vLtD (Enc.enc a) (Enc.enc b) h = .ok (.bl (DatumOrd.lt a b)) h := by
  have := Datum.depth_le a
  unfold vLtD
  rw [Enc.dat a, Enc.dat b]
  simp only
  rw [if_pos ⟨DatumOrd.alike a b, DatumOrd.notNone a, by omega⟩, DatumOrd.lt_eq]
theorem rising_aux {v : Val} {xs : List α} {N : Int} {h : HM} (hd : Datum.depth α ≤ 50) (hN : N = xs.length) (hl : xs.length ≤ 1000000) (hlen : ∀ h, bLen [v] h = .ok (.int N) h) (ix : ∀ (i : Nat) x, xs[i]? = some x → ∀ h, vIx v (.int (i : Nat)) h = .ok (Enc.enc x) h) :
    m_is_rising [v] h = .ok (.bl (risB xs)) h := by
  have hr : -(2 ^ 62) ≤ (1 : Int) ∧ (1 : Int) < 2 ^ 62 ∧ -(2 ^ 62) ≤ N ∧ N < 2 ^ 62 := by omega
  have hn : (N - 1).toNat = xs.length - 1 := by omega
  have rg : ∀ h, rng2 [.int 1, .int N] h = .ok (srcItems (intsV 1 (xs.length - 1))) h := fun h => by rw [← hn]; exact if_pos hr
  have lc := lc_range (lo := 1) (n := xs.length - 1) (g := gNm 1) (te := e2 vLtD (e2 vIx (eVar 0) (e2 vSub (eVar 1) (eC (.int 1)))) (e2 vIx (eVar 0) (eVar 1))) (l := [some v, none]) (h := h)
    (fun i => .bl (match xs[i]?, xs[i + 1]? with | some a, some b => DatumOrd.lt a b | _, _ => false)) (fun i hi => ⟨_, rfl, ?_⟩) (by rw [sizeLine_eq]; omega)
  · unfold m_is_rising mF
    simp [hlen, rg, wipeL]
    rw [lc]
    simp [all_ok, risB]
  · have e1 : xs[i]? = some xs[i] := by simp
    have e2 : xs[i + 1]? = some xs[i + 1] := by simp
    have i1 : (1 + (i : Int)) - 1 = (i : Nat) := by omega
    have i2 : 1 + (i : Int) = ((i + 1 : Nat) : Int) := by omega
    have a1 := ix i _ e1
    have a2 := ix (i + 1) _ e2
    rw [← i2] at a2
    simp [i1, a1, a2, ltD_enc hd]
    rw [e1, e2]
theorem at_rising {xs : List α} {h : HM} (hd : Datum.depth α ≤ 50) (hl : xs.length ≤ 1000000) : m_is_rising [.lst (xs.map Enc.enc)] h = .ok (.bl (risB xs)) h :=
  rising_aux hd rfl hl (fun h => by rw [ev_lenL, List.length_map]) fun i x e h => by
    have : atI (xs.map Enc.enc) (i : Int) = some (Enc.enc x : Val) := by rw [atI_nat (by omega)]; simp [e]
    simp only [vIx, this, ofO]
theorem risB_of {xs : List α} (h : List.Pairwise (fun a b => DatumOrd.lt a b = true) xs) : risB xs = true := by
  unfold risB
  rw [List.all_eq_true]
  intro i hi
  rw [List.mem_range] at hi
  have e1 : xs[i]? = some xs[i] := by simp
  have e2 : xs[i + 1]? = some xs[i + 1] := by simp
  rw [e1, e2]
  exact List.pairwise_iff_getElem.mp h i (i + 1) _ _ (by omega)
end
theorem mkV_eq {v : Val} {m : Mk} (hn : noP v = true) (e : mkV v = some m) : v = eM m := by
  have h := (mkV_some e).1
  cases v <;> first | (cases h; done) | (cases hn; done) | (cases h; rfl)
def allM (xs : List Val) : Bool := xs.all fun x => (mkV x).isSome
def mksV (xs : List Val) : List Mk := xs.filterMap mkV
theorem mksV_eq {xs : List Val} (hn : noPs xs = true) (ha : allM xs = true) : xs = (mksV xs).map eM := by
  induction xs with
  | nil => rfl
  | cons x xs ih =>
    simp only [noPs, Bool.and_eq_true] at hn
    simp only [allM, List.all_cons, Bool.and_eq_true] at ha
    obtain ⟨m, e⟩ := Option.isSome_iff_exists.mp ha.1
    have ih := ih hn.2 ha.2
    unfold mksV at *
    rw [List.filterMap_cons, e]
    simp only [List.map_cons]
    rw [← ih, ← mkV_eq hn.1 e]
def knV (v : Val) : Option (List Mk) := match tupL v with
  | some xs => if allM xs = true ∧ risB ((mksV xs).map (·.1)) = true then some (mksV xs) else none
  | none => none
/-- no pinned tuple within -/
def noIn (v : Val) : Prop := ∀ xs, tupL v = some xs → noPs xs = true
theorem at_isKnown {v : Val} {h : HM} (hv : tame v = true) (hn : noIn v) : m_is_known [v] h = .ok (.bl (knV v).isSome) h := by
  have a : ∀ h, bIsi [v, .ty "tuple"] h = .ok (.bl (tupL v).isSome) h := fun h => isi_tuple (tame_isV hv)
  unfold m_is_known mF
  cases e : tupL v with
  | none =>
    have e2 : knV v = none := by simp [knV, e]
    rw [e] at a
    simp [a, e2]
  | some xs =>
    have hn := hn xs e
    obtain ⟨lx, tx⟩ := tame_tup hv e
    have sv : ∀ h, srcOf v h = .ok (srcItems xs) h := fun h => src_tup e
    rw [e] at a
    have l1 : ∀ (l : Loc), (∀ v : Val, ∃ l1, gNm 1 v l = some l1 ∧ eVar 1 l1 h = .ok v h) → lcL (srcItems xs) (gNm 1) tYesM (eCall m_is_mark (aCons (eVar 1) aNil)) l (srcItems xs).len 0 h [] = .ok (xs.map fun x => .bl (mkV x).isSome) h := fun l hg => lc_map (fun x => .bl (mkV x).isSome) (fun x hx => by
      obtain ⟨l1, q1, q2⟩ := hg x
      exact ⟨l1, q1, by simp [q2, at_isMark (tx x hx)]⟩) (by rw [sizeLine_eq]; omega)
    simp [a, sv]
    rw [l1 _ fun v => ⟨_, rfl, by simp [wipeL]⟩]
    simp only [Res.bind_ok, ev_frozen, all_ok, ev_truB]
    by_cases ha : allM xs = true
    · have hx := mksV_eq hn ha
      have ha' : (xs.all fun x => (mkV x).isSome) = true := ha
      have e3 : knV v = if risB ((mksV xs).map (·.1)) = true then some (mksV xs) else none := by simp [knV, e, ha]
      have lm : (mksV xs).length ≤ 1000000 := by have := congrArg List.length hx; simp only [List.length_map] at this; omega
      have l2 := lc_mapM (xs := mksV xs) (e := eM) (g := gTp 2 (gsCons (gNm 2) (gsCons (gNm 3) gsNil))) (te := eVar 2) (h := h) (l := [some v, none, none, none]) (fun m => .int m.1) (fun m hm => ⟨_, rfl, by simp [eM]⟩) (by rw [sizeLine_eq]; omega)
      rw [← hx] at l2
      have e4 : (mksV xs).map (fun m => Val.int m.1) = ((mksV xs).map (·.1)).map Enc.enc := by rw [List.map_map]; rfl
      have ri := at_rising (α := Int) (xs := (mksV xs).map (·.1)) (h := h) (by decide) (by simpa using lm)
      rw [e4] at l2
      generalize m_is_rising = mr at ri ⊢
      simp [ha', sv, wipeL]
      simp only [l2, Res.bind_ok, ev_frozen, ri]
      rw [e3]
      cases risB ((mksV xs).map (·.1)) <;> simp
    · have ha' : (xs.all fun x => (mkV x).isSome) = false := Bool.eq_false_iff.mpr ha
      have e3 : knV v = none := by simp [knV, e, ha]
      simp [ha', e3]
def rightB (j : Nat) (v : Val) : Bool := if j = 0 then isName v else isText v
def wdV (j : Nat) (x : Val) : Option Wd := match tupL x with
  | some [a, .str s] => (match mkV a with
    | some m => if rightB j (.str s) = true then some (m, s) else none
    | none => none)
  | _ => none
theorem rightB_str {j : Nat} {v : Val} (h : rightB j v = true) : ∃ s, v = .str s := by
  unfold rightB at h
  split at h
  · cases v <;> first | exact ⟨_, rfl⟩ | cases h
  · cases v <;> first | exact ⟨_, rfl⟩ | cases h
theorem wdV_eq {j : Nat} {v : Val} {p : Wd} (hn : noP v = true) (e : wdV j v = some p) : v = eW p := by
  unfold wdV at e
  split at e
  · rename_i a s h
    split at e
    · rename_i m hm
      split at e
      · cases e
        have hv : v = .tup [a, .str s] := by cases v <;> first | (cases h; done) | (cases hn; done) | (cases h; rfl)
        subst hv
        simp only [noP, noPs, Bool.and_eq_true] at hn
        rw [mkV_eq hn.1 hm]
        rfl
      · cases e
    · cases e
  · cases e
def allW (j : Nat) (xs : List Val) : Bool := xs.all fun x => (wdV j x).isSome
def wdsV (j : Nat) (xs : List Val) : List Wd := xs.filterMap (wdV j)
theorem wdsV_eq {j : Nat} {xs : List Val} (hn : noPs xs = true) (ha : allW j xs = true) : xs = (wdsV j xs).map eW := by
  induction xs with
  | nil => rfl
  | cons x xs ih =>
    simp only [noPs, Bool.and_eq_true] at hn
    simp only [allW, List.all_cons, Bool.and_eq_true] at ha
    obtain ⟨m, e⟩ := Option.isSome_iff_exists.mp ha.1
    have ih := ih hn.2 ha.2
    unfold wdsV at *
    rw [List.filterMap_cons, e]
    simp only [List.map_cons]
    rw [← ih, ← wdV_eq hn.1 e]
def mdV (j : Nat) (ks : List Mk) (v : Val) : Option (List Wd) := match tupL v with
  | some xs => if allW j xs = true ∧ risB ((wdsV j xs).map (·.1)) = true ∧ heard ks ((wdsV j xs).map (·.1)) = true then some (wdsV j xs) else none
  | none => none
/-- a loop that goes through, or tells r at the first thing that isn't right -/
theorem for_ret {xs : List Val} {g : GM} {b : SM} {l : Loc} {h : HM} {r : Val} (p : Val → Bool) (I : Loc → Prop) (h0 : I l)
    (hs : ∀ x ∈ xs, ∀ l, I l → ∃ l1, g x l = some l1 ∧ if p x = true then ∃ l2, b l1 h = .nx l2 h ∧ I l2 else b l1 h = .rt r h) :
    if xs.all p = true then ∃ l', forL (srcItems xs) g b (srcItems xs).len 0 l h = .nx l' h ∧ I l' else forL (srcItems xs) g b (srcItems xs).len 0 l h = .rt r h := by
  have gen : ∀ (n i : Nat) (l : Loc), i + n = xs.length → I l → if (xs.drop i).all p = true then ∃ l', forL (srcItems xs) g b n i l h = .nx l' h ∧ I l' else forL (srcItems xs) g b n i l h = .rt r h := by
    intro n
    induction n with
    | zero =>
      intro i l hi hI
      have : xs.drop i = [] := List.drop_eq_nil_of_le (by omega)
      simp [this, forL, srcItems, hI]
    | succ n ih =>
      intro i l hi hI
      have hlt : i < xs.length := by omega
      have hg : (srcItems xs).get i h = some xs[i] := by simp [srcItems, hlt]
      have hd : xs.drop i = xs[i] :: xs.drop (i + 1) := List.drop_eq_getElem_cons hlt
      obtain ⟨l1, e1, hh⟩ := hs xs[i] (List.getElem_mem hlt) l hI
      simp only [forL, hg, e1, hd, List.all_cons]
      by_cases hp : p xs[i] = true
      · rw [if_pos hp] at hh
        obtain ⟨l2, e2, hI2⟩ := hh
        simp only [e2, hp, Bool.true_and]
        exact ih (i + 1) l2 (by omega) hI2
      · rw [if_neg hp] at hh
        have hp' : p xs[i] = false := by simpa using hp
        simp [hh, hp']
  exact gen xs.length 0 l (by omega) h0
theorem marked_f0 {j : Nat} {x : Val} {a0 a1 a4 a5 a6 : Option Val} {h : HM} (hj : j = 0 ∨ j = 1) (hx : tame x = true) :
    m_are_marked_f0 [a0, a1, some (.fn j), some x, a4, a5, a6] h = if (wdV j x).isSome = true then .nx [a0, a1, some (.fn j), some x, a4, a5, a6] h else .rt (.bl false) h := by
  have a : ∀ h, bIsi [x, .ty "tuple"] h = .ok (.bl (tupL x).isSome) h := fun h => isi_tuple (tame_isV hx)
  have cv : ∀ (as : AM) h, eCallV 2 tabFn as [a0, a1, some (.fn j), some x, a4, a5, a6] h = (as [a0, a1, some (.fn j), some x, a4, a5, a6] h).bind fun xs h1 => match (if j = 0 then m_is_name else m_is_text) xs h1 with | .ok v h2 => .ok v h2 | _ => .bad := fun as h => by
    rcases hj with rfl | rfl <;> rfl
  have rj : ∀ (w : Val) h, tame w = true → (if j = 0 then m_is_name else m_is_text) [w] h = .ok (.bl (rightB j w)) h := fun w h hw => by
    unfold rightB
    rcases hj with rfl | rfl
    · simp [at_isName (tame_ask hw)]
    · simp [at_isText (tame_ask hw)]
  generalize (if j = 0 then m_is_name else m_is_text) = mj at cv rj
  unfold m_are_marked_f0
  cases e : tupL x with
  | none =>
    have e2 : wdV j x = none := by simp [wdV, e]
    rw [e] at a
    simp [a, e2]
  | some xs =>
    have b : ∀ h, bLen [x] h = .ok (.int xs.length) h := fun h => len_tup e
    rw [e] at a
    obtain ⟨_, tx⟩ := tame_tup hx e
    match xs, tx, e, b with
    | [u, w], tx, e, b =>
      have x0 : ∀ h, vIx x (.int 0) h = .ok u h := fun h => by rw [ix_tupL e]; rfl
      have x1 : ∀ h, vIx x (.int 1) h = .ok w h := fun h => by rw [ix_tupL e]; rfl
      have m0 : ∀ h, m_is_mark [u] h = .ok (.bl (mkV u).isSome) h := fun h => at_isMark (tx u (by simp))
      have m1 : ∀ h, mj [w] h = .ok (.bl (rightB j w)) h := fun h => rj w h (tx w (by simp))
      simp [a, b, x0, m0]
      cases em : mkV u with
      | none =>
        have e2 : wdV j x = none := by
          simp only [wdV, e]
          split
          · rename_i a s h
            cases h
            rw [em]
          · rfl
        simp [e2]
      | some m =>
        simp [cv, x1, m1]
        cases er : rightB j w with
        | false =>
          have e2 : wdV j x = none := by
            simp only [wdV, e]
            split
            · rename_i a s h
              cases h
              simp [em, er]
            · rfl
          simp [e2]
        | true =>
          obtain ⟨s, rfl⟩ := rightB_str er
          have e2 : wdV j x = some (m, s) := by simp [wdV, e, em, er]
          simp [e2]
    | [], tx, e, b => simp [a, b, wdV, e]
    | [u], tx, e, b => simp [a, b, wdV, e]
    | u :: y :: z :: t, tx, e, b =>
      have e2 : wdV j x = none := by simp [wdV, e]
      obtain ⟨L, hL, bL⟩ : ∃ L : Int, ¬ L = 2 ∧ ∀ h, bLen [x] h = .ok (.int L) h := ⟨_, by simp only [List.length_cons]; omega, b⟩
      simp [a, bL, e2, hL]
theorem at_areMarked {j : Nat} {ks : List Mk} {v k : Val} {h : HM} (hj : j = 0 ∨ j = 1) (hv : tame v = true) (hn : noIn v) (hk : tupL k = some (ks.map eM)) (lk : ks.length ≤ 1000000) : m_are_marked [v, k, .fn j] h = .ok (.bl (mdV j ks v).isSome) h := by
  have a : ∀ h, bIsi [v, .ty "tuple"] h = .ok (.bl (tupL v).isSome) h := fun h => isi_tuple (tame_isV hv)
  unfold m_are_marked mF
  cases e : tupL v with
  | none =>
    have e2 : mdV j ks v = none := by simp [mdV, e]
    rw [e] at a
    simp [a, e2]
  | some xs =>
    have hn := hn xs e
    obtain ⟨lx, tx⟩ := tame_tup hv e
    have sv : ∀ h, srcOf v h = .ok (srcItems xs) h := fun h => src_tup e
    rw [e] at a
    have fr := for_ret (xs := xs) (g := gNm 3) (b := m_are_marked_f0) (l := [some v, some k, some (.fn j), none, none, none, none]) (h := h) (r := .bl false) (fun x => (wdV j x).isSome) (fun l => ∃ a3, l = [some v, some k, some (.fn j), a3, none, none, none]) ⟨_, rfl⟩ (fun x hx l ⟨a3, hl⟩ => by
      subst hl
      refine ⟨_, rfl, ?_⟩
      show if _ then ∃ l2, m_are_marked_f0 [some v, some k, some (.fn j), some x, none, none, none] h = _ ∧ _ else m_are_marked_f0 [some v, some k, some (.fn j), some x, none, none, none] h = _
      rw [marked_f0 hj (tx x hx)]
      split
      · exact ⟨_, rfl, _, rfl⟩
      · rfl)
    simp [a, sv]
    by_cases ha : allW j xs = true
    · have ha' : (xs.all fun x => (wdV j x).isSome) = true := ha
      rw [if_pos ha'] at fr
      obtain ⟨l', e1, a3, e2⟩ := fr
      subst e2
      have hx := wdsV_eq hn ha
      have lm : (wdsV j xs).length ≤ 1000000 := by have := congrArg List.length hx; simp only [List.length_map] at this; omega
      have l2 := lc_mapM (xs := wdsV j xs) (e := eW) (g := gTp 2 (gsCons (gNm 5) (gsCons (gNm 6) gsNil))) (te := eVar 5) (h := h) (l := [some v, some k, some (.fn j), a3, none, none, none]) (fun m => eM m.1) (fun m hm => ⟨_, rfl, by simp [eM]⟩) (by rw [sizeLine_eq]; omega)
      rw [← hx] at l2
      have e4 : (wdsV j xs).map (fun m => eM m.1) = ((wdsV j xs).map (·.1)).map eM := by rw [List.map_map]; rfl
      have ri := at_rising (α := Mk) (xs := (wdsV j xs).map (·.1)) (h := h) (by decide) (by simpa using lm)
      have e5 : ((wdsV j xs).map (·.1)).map Enc.enc = ((wdsV j xs).map (·.1)).map eM := rfl
      rw [e5] at ri
      have he : m_has_heard [k, .lst (((wdsV j xs).map (·.1)).map eM)] h = .ok (.bl (heard ks ((wdsV j xs).map (·.1)))) h := by
        unfold m_has_heard mF
        simp [srcOf, -List.map_map]
        rw [lc_mapM (f := fun m : Mk => .bl (within m ks)) (fun q hq => ⟨_, rfl, by simp [wipeL, at_within hk lk]⟩) (by rw [sizeLine_eq, List.length_map]; omega)]
        simp only [Res.bind_ok, ev_frozen, all_ok]
        simp [heard]
      rw [e4] at l2
      have e6 : mdV j ks v = if risB ((wdsV j xs).map (·.1)) = true ∧ heard ks ((wdsV j xs).map (·.1)) = true then some (wdsV j xs) else none := by simp [mdV, e, ha]
      generalize m_is_rising = mr at ri ⊢
      generalize m_has_heard = mh at he ⊢
      rw [e1]
      simp [sv, wipeL]
      simp only [l2, Res.bind_ok, ev_frozen, Res.thn_ok, ev_gNm0, ev_gNmS, Option.map_some, ev_sRet, ev_eAnd, ev_eCall, ev_aCons, ev_aNil, ev_Var0, ev_VarS, ri]
      rw [e6]
      cases risB ((wdsV j xs).map (·.1)) with
      | false => simp
      | true =>
        simp [-List.map_map]
        rw [he]
        cases heard ks ((wdsV j xs).map (·.1)) <;> simp
    · have ha' : ¬ (xs.all fun x => (wdV j x).isSome) = true := ha
      rw [if_neg ha'] at fr
      have e3 : mdV j ks v = none := by simp [mdV, e, ha]
      rw [fr]
      simp [e3]
def fileV (v : Val) : Option Fl := match tupL v with
  | some [a, .str b, k, n, t] => (match mkV a, knV k with
    | some m, some ks => if isName (.str b) = true ∧ within m ks = true then (match mdV 0 ks n, mdV 1 ks t with
      | some ns, some ts => some ⟨m, b, ks, ns, ts⟩
      | _, _ => none) else none
    | _, _ => none)
  | _ => none
/-- a thing that is_file is asked of: pinned tuples are parts of it, or nowhere -/
structure Asked (v : Val) : Prop where
  tame : tame v = true
  parts : ∀ xs, tupL v = some xs → ∀ x ∈ xs, noIn x
  first : ∀ x xs, tupL v = some (x :: xs) → noP x = true
theorem knV_tup {k : Val} {ks : List Mk} (hn : noIn k) (e : knV k = some ks) : tupL k = some (ks.map eM) := by
  unfold knV at e
  split at e
  · rename_i xs h
    split at e
    · rename_i hh
      cases e
      rw [h]
      exact congrArg some (mksV_eq (hn xs h) hh.1)
    · cases e
  · cases e
theorem at_isFile {v : Val} {h : HM} (A : Asked v) : m_is_file [v] h = .ok (.bl (fileV v).isSome) h := by
  have hv := A.tame
  have a : ∀ h, bIsi [v, .ty "tuple"] h = .ok (.bl (tupL v).isSome) h := fun h => isi_tuple (tame_isV hv)
  unfold m_is_file mF
  cases e : tupL v with
  | none =>
    have e2 : fileV v = none := by simp [fileV, e]
    rw [e] at a
    simp [a, e2]
  | some xs =>
    have b : ∀ h, bLen [v] h = .ok (.int xs.length) h := fun h => len_tup e
    rw [e] at a
    obtain ⟨_, tx⟩ := tame_tup hv e
    have pa := A.parts xs e
    by_cases h5 : xs.length = 5
    · match xs, h5, tx, e, b, pa with
      | [x0, x1, x2, x3, x4], h5, tx, e, b, pa =>
        have i0 : ∀ h, vIx v (.int 0) h = .ok x0 h := fun h => by rw [ix_tupL e]; rfl
        have i1 : ∀ h, vIx v (.int 1) h = .ok x1 h := fun h => by rw [ix_tupL e]; rfl
        have i2 : ∀ h, vIx v (.int 2) h = .ok x2 h := fun h => by rw [ix_tupL e]; rfl
        have i3 : ∀ h, vIx v (.int 3) h = .ok x3 h := fun h => by rw [ix_tupL e]; rfl
        have i4 : ∀ h, vIx v (.int 4) h = .ok x4 h := fun h => by rw [ix_tupL e]; rfl
        have t2 : tame x2 = true := tx x2 (by simp)
        have n2 : noIn x2 := pa x2 (by simp)
        have q0 : ∀ h, m_is_mark [x0] h = .ok (.bl (mkV x0).isSome) h := fun h => at_isMark (tx x0 (by simp))
        have q1 : ∀ h, m_is_name [x1] h = .ok (.bl (isName x1)) h := fun h => at_isName (tame_ask (tx x1 (by simp)))
        have q2 : ∀ h, m_is_known [x2] h = .ok (.bl (knV x2).isSome) h := fun h => at_isKnown t2 n2
        have x0n := A.first x0 _ e
        simp [a, b, i0, q0, i1, q1, i2, q2]
        cases em : mkV x0 with
        | none =>
          have e2 : fileV v = none := by
            simp only [fileV, e]
            split
            · rename_i h; cases h; rw [em]
            · rfl
          simp [e2]
        | some m =>
          cases en : isName x1 with
          | false =>
            have e2 : fileV v = none := by
              simp only [fileV, e]
              split
              · rename_i h; cases h; rw [em]
                cases knV x2 <;> simp [en]
              · rfl
            simp [e2]
          | true =>
            obtain ⟨s, rfl⟩ : ∃ s, x1 = .str s := rightB_str (j := 0) (v := x1) (by simpa [rightB] using en)
            cases ek : knV x2 with
            | none =>
              have e2 : fileV v = none := by simp [fileV, e, em, ek]
              simp [e2]
            | some ks =>
              have kt := knV_tup n2 ek
              have lk : ks.length ≤ 1000000 := by have := (tame_tup t2 kt).1; simpa using this
              have x0e := mkV_eq x0n em
              subst x0e
              have q3 : ∀ h, m_is_within [eM m, x2] h = .ok (.bl (within m ks)) h := fun h => at_within kt lk
              have q4 : ∀ h, m_are_marked [x3, x2, .fn 0] h = .ok (.bl (mdV 0 ks x3).isSome) h := fun h => at_areMarked (.inl rfl) (tx x3 (by simp)) (pa x3 (by simp)) kt lk
              have q5 : ∀ h, m_are_marked [x4, x2, .fn 1] h = .ok (.bl (mdV 1 ks x4).isSome) h := fun h => at_areMarked (.inr rfl) (tx x4 (by simp)) (pa x4 (by simp)) kt lk
              simp [q3, i3, i4, q4, q5]
              have e2 : fileV v = if within m ks = true then (match mdV 0 ks x3, mdV 1 ks x4 with
                | some ns, some ts => some ⟨m, s, ks, ns, ts⟩
                | _, _ => none) else none := by simp [fileV, e, em, ek, en]
              rw [e2]
              cases within m ks with
              | false => simp
              | true =>
                cases e3 : mdV 0 ks x3 <;> cases e4 : mdV 1 ks x4 <;> simp [i2, i3, i4, q4, q5, e3, e4]
    · obtain ⟨L, hL, bL⟩ : ∃ L : Int, ¬ L = 5 ∧ ∀ h, bLen [v] h = .ok (.int L) h := ⟨_, by omega, b⟩
      have e2 : fileV v = none := by
        simp only [fileV, e]
        split
        · rename_i h; cases h; simp at h5
        · rfl
      simp [a, bL, e2, hL]
end
end MM
namespace MM
open PySem L2 PySem.W
noncomputable section
def Rg (m : Mk) : Prop := 0 ≤ m.1 ∧ m.1 ≤ 5 ∧ 1 ≤ m.2
/-- marked words as a file has them: kind j -/
structure Gw (j : Nat) (ks : List Mk) (xs : List Wd) : Prop where
  nd : (xs.map (·.1)).Nodup
  sd : Sd xs
  wi : ∀ p ∈ xs, within p.1 ks = true
  rg : ∀ p ∈ xs, Rg p.1
  ok : okW xs
  ri : ∀ p ∈ xs, rightB j (.str p.2) = true
structure Gk (ks : List Mk) : Prop where
  nd : (ks.map (·.1)).Nodup
  sd : Sd ks
  rg : ∀ m ∈ ks, Rg m
structure Gd (n : Nat) (f : Fl) : Prop where
  id : Rg f.id
  first : isName (.str f.first) = true
  fok : PyData.strOk f.first = true
  known : Gk f.known
  own : within f.id f.known = true
  names : Gw 0 f.known f.names
  texts : Gw 1 f.known f.texts
  ln : f.names.length ≤ n
  lt : f.texts.length ≤ n
theorem nd_fst {xs : List Wd} (h : (xs.map (·.1)).Nodup) : xs.Nodup := (List.pairwise_map.mp h).imp fun g e => g (congrArg Prod.fst e)
theorem fst_inj {xs : List Wd} (h : (xs.map (·.1)).Nodup) {p q : Wd} (hp : p ∈ xs) (hq : q ∈ xs) (e : p.1 = q.1) : p = q := by
  induction xs with
  | nil => cases hp
  | cons x xs ih =>
    rw [List.map_cons, List.nodup_cons] at h
    rcases List.mem_cons.mp hp with e1 | hp1 <;> rcases List.mem_cons.mp hq with e2 | hq1
    · rw [e1, e2]
    · subst e1
      exact absurd (List.mem_map.mpr ⟨q, hq1, e.symm⟩) h.1
    · subst e2
      exact absurd (List.mem_map.mpr ⟨p, hp1, e⟩) h.1
    · exact ih h.2 hp1 hq1
theorem nd_of_inj {xs : List Wd} (h : xs.Nodup) (hi : ∀ p ∈ xs, ∀ q ∈ xs, p.1 = q.1 → p = q) : (xs.map (·.1)).Nodup := by
  rw [List.Nodup, List.pairwise_map]
  exact List.Pairwise.imp_of_mem (fun {a b} ha hb hne e => hne (hi a ha b hb e)) h
/-- six houses at most -/
theorem range_len : ∀ (n : Nat) (xs : List Int), xs.Nodup → (∀ x ∈ xs, 0 ≤ x ∧ x < (n : Int)) → xs.length ≤ n := by
  intro n xs hn hx
  have : (xs.map Int.toNat).Nodup := by
    rw [List.Nodup, List.pairwise_map]
    exact List.Pairwise.imp_of_mem (fun {a b} ha hb hne e => hne (by have := hx a ha; have := hx b hb; omega)) hn
  have h2 := List.Nodup.length_le_of_subset (l₂ := List.range n) this (fun y hy => by
    obtain ⟨x, h1, rfl⟩ := List.mem_map.mp hy
    have := hx x h1
    rw [List.mem_range]; omega)
  simpa using h2
theorem Gk.len {ks : List Mk} (h : Gk ks) : ks.length ≤ 6 := by
  have := range_len 6 (ks.map (·.1)) h.nd fun x hx => by
    obtain ⟨m, hm, rfl⟩ := List.mem_map.mp hx
    have := h.rg m hm
    unfold Rg at this
    omega
  simpa using this
theorem Gk.pos {ks : List Mk} (h : Gk ks) : ∀ m ∈ ks, 0 < m.2 := fun m hm => by have := h.rg m hm; unfold Rg at this; omega
theorem Gk.join {a b : List Mk} (ha : Gk a) (hb : Gk b) : Gk (srt (joinK a b)) := by
  refine ⟨keys_srt (joinK_keys ha.nd), srt_srt _, fun m hm => ?_⟩
  have hp := joinK_pos hb.pos ha.pos m (srt_mem.mp hm)
  have hw : within m (srt (joinK a b)) = true := ((mem_within (keys_srt (joinK_keys ha.nd))).mp hm).1
  rw [within_joinK ha.nd hb.pos, Bool.or_eq_true] at hw
  have key : ∀ ks : List Mk, Gk ks → within m ks = true → 0 ≤ m.1 ∧ m.1 ≤ 5 := fun ks hk hw => by
    unfold within at hw
    rw [List.any_eq_true] at hw
    obtain ⟨k, h1, h2⟩ := hw
    simp at h2
    have := hk.rg k h1
    unfold Rg at this
    omega
  unfold Rg
  rcases hw with hw | hw
  · have := key a ha hw; omega
  · have := key b hb hw; omega
theorem Gw.join {j : Nat} {a b : List Mk} {x y : List Wd} (ka : Gk a) (kb : Gk b) (hx : Gw j a x) (hy : Gw j b y) : Gw j (srt (joinK a b)) (srt (joinW x a y b)) := by
  have nd := joinW_nd (kx := a) (ky := b) (nd_fst hx.nd) (nd_fst hy.nd)
  have mem : ∀ p ∈ joinW x a y b, p ∈ x ∨ p ∈ y := fun p hp => by
    rcases mem_joinW.mp hp with h | h
    · exact .inl h.1
    · exact .inr h.1
  have inj : ∀ p ∈ joinW x a y b, ∀ q ∈ joinW x a y b, p.1 = q.1 → p = q := fun p hp q hq e => by
    have hp := mem_joinW.mp hp
    have hq := mem_joinW.mp hq
    by_cases px : p ∈ x
    · by_cases qx : q ∈ x
      · exact fst_inj hx.nd px qx e
      · have qy : q ∈ y := by rcases hq with h | h; exact absurd h.1 qx; exact h.1
        have : within q.1 a = false := by
          rcases hq with h | h
          · exact absurd h.1 qx
          · rcases h.2 with h | h
            · exact absurd h qx
            · exact h
        rw [← e, hx.wi p px] at this
        cases this
    · have py : p ∈ y := by rcases hp with h | h; exact absurd h.1 px; exact h.1
      by_cases qy : q ∈ y
      · exact fst_inj hy.nd py qy e
      · have qx : q ∈ x := by rcases hq with h | h; exact h.1; exact absurd h.1 qy
        have : within p.1 a = false := by
          rcases hp with h | h
          · exact absurd h.1 px
          · rcases h.2 with h | h
            · exact absurd h px
            · exact h
        rw [e, hx.wi q qx] at this
        cases this
  refine ⟨?_, srt_srt _, fun p hp => ?_, fun p hp => ?_, okW_srt (joinW_ok hx.ok hy.ok), fun p hp => ?_⟩
  · exact ((srt_perm _).map _).nodup_iff.mpr (nd_of_inj nd inj)
  · rw [within_joinK ka.nd kb.pos]
    rcases mem p (srt_mem.mp hp) with h | h
    · rw [hx.wi p h]; rfl
    · rw [hy.wi p h]; simp
  · rcases mem p (srt_mem.mp hp) with h | h
    · exact hx.rg p h
    · exact hy.rg p h
  · rcases mem p (srt_mem.mp hp) with h | h
    · exact hx.ri p h
    · exact hy.ri p h
theorem Gd.join {n m : Nat} {a b : Fl} (ha : Gd n a) (hb : Gd m b) : Gd (n + m) (joinF a b) := by
  have own : within a.id (srt (joinK a.known b.known)) = true := by rw [within_joinK ha.known.nd hb.known.pos, ha.own]; rfl
  refine ⟨ha.id, ha.first, ha.fok, ha.known.join hb.known, own, Gw.join ha.known hb.known ha.names hb.names, Gw.join ha.known hb.known ha.texts hb.texts, ?_, ?_⟩
  · show (srt _).length ≤ _
    rw [srt_len]
    have := joinW_len (x := a.names) (y := b.names) (kx := a.known) (ky := b.known)
    have := ha.ln; have := hb.ln; omega
  · show (srt _).length ≤ _
    rw [srt_len]
    have := joinW_len (x := a.texts) (y := b.texts) (kx := a.known) (ky := b.known)
    have := ha.lt; have := hb.lt; omega
theorem sd_pw {α : Type} [DecidableEq α] [EncO α] {xs : List α} (h : Sd xs) (nd : xs.Nodup) : List.Pairwise (fun a b => DatumOrd.lt a b = true) xs := by
  have p := srt_pw xs
  rw [h] at p
  refine (p.and nd).imp fun {a b} ⟨h1, h2⟩ => ?_
  cases e : DatumOrd.lt a b with
  | true => rfl
  | false => exact absurd (EncO.tri a b e h1) h2
theorem marks_pw {xs : List Wd} (h : Sd xs) (nd : (xs.map (·.1)).Nodup) : List.Pairwise (fun a b => DatumOrd.lt a b = true) (xs.map (·.1)) := by
  have p := sd_pw h (nd_fst nd)
  rw [List.pairwise_map]
  have nd' := List.pairwise_map.mp nd
  refine (p.and nd').imp fun {a b} ⟨h1, h2⟩ => ?_
  rw [lt_pair, if_neg h2] at h1
  exact h1
theorem houses_pw {ks : List Mk} (h : Sd ks) (nd : (ks.map (·.1)).Nodup) : List.Pairwise (fun a b => DatumOrd.lt a b = true) (ks.map (·.1)) := by
  have p := sd_pw h (nd_of_keys nd)
  rw [List.pairwise_map]
  have nd' := List.pairwise_map.mp nd
  refine (p.and nd').imp fun {a b} ⟨h1, h2⟩ => ?_
  rw [lt_pair, if_neg h2] at h1
  exact h1
theorem allM_map {ks : List Mk} (h : ∀ m ∈ ks, Rg m) : allM (ks.map eM) = true ∧ mksV (ks.map eM) = ks := by
  induction ks with
  | nil => exact ⟨rfl, rfl⟩
  | cons k ks ih =>
    have h1 := h k List.mem_cons_self
    obtain ⟨i1, i2⟩ := ih fun m hm => h m (List.mem_cons_of_mem _ hm)
    have e : mkV (eM k) = some k := mkV_eM ⟨h1.1, h1.2.1⟩ h1.2.2
    unfold allM mksV at *
    simp [e, i2]
    simpa using i1
theorem knV_good {ks : List Mk} {k : Val} (h : Gk ks) (hk : tupL k = some (ks.map eM)) : knV k = some ks := by
  obtain ⟨a, b⟩ := allM_map h.rg
  simp only [knV, hk, a, b]
  rw [if_pos ⟨trivial, risB_of (houses_pw h.sd h.nd)⟩]
theorem wdV_eW {j : Nat} {p : Wd} (h : Rg p.1) (hr : rightB j (.str p.2) = true) : wdV j (eW p) = some p := by
  have e : tupL (eW p) = some [eM p.1, .str p.2] := rfl
  simp only [wdV, e, mkV_eM ⟨h.1, h.2.1⟩ h.2.2, hr, if_true]
theorem allW_map {j : Nat} {xs : List Wd} (h : ∀ p ∈ xs, Rg p.1) (hr : ∀ p ∈ xs, rightB j (.str p.2) = true) : allW j (xs.map eW) = true ∧ wdsV j (xs.map eW) = xs := by
  induction xs with
  | nil => exact ⟨rfl, rfl⟩
  | cons k ks ih =>
    obtain ⟨i1, i2⟩ := ih (fun m hm => h m (List.mem_cons_of_mem _ hm)) fun m hm => hr m (List.mem_cons_of_mem _ hm)
    have e := wdV_eW (j := j) (h k List.mem_cons_self) (hr k List.mem_cons_self)
    unfold allW wdsV at *
    simp [e, i2]
    simpa using i1
theorem mdV_good {j : Nat} {ks : List Mk} {xs : List Wd} (h : Gw j ks xs) : mdV j ks (.tup (xs.map eW)) = some xs := by
  obtain ⟨a, b⟩ := allW_map h.rg h.ri
  have e : tupL (.tup (xs.map eW)) = some (xs.map eW) := rfl
  simp only [mdV, e, a, b]
  refine if_pos ⟨trivial, risB_of (marks_pw h.sd h.nd), ?_⟩
  unfold heard
  rw [List.all_eq_true]
  intro m hm
  obtain ⟨p, hp, rfl⟩ := List.mem_map.mp hm
  exact h.wi p hp
theorem fileV_good {n : Nat} {f : Fl} {k : Val} (h : Gd n f) (hk : tupL k = some (f.known.map eM)) : fileV (eFk f k) = some f := by
  have e : tupL (eFk f k) = some [eM f.id, .str f.first, k, .tup (f.names.map eW), .tup (f.texts.map eW)] := rfl
  simp only [fileV, e, mkV_eM ⟨h.id.1, h.id.2.1⟩ h.id.2.2, knV_good h.known hk, h.first, h.own, mdV_good h.names, mdV_good h.texts]
  simp
theorem noPs_mks (ks : List Mk) : noPs (ks.map eM) = true := noPs_map (α := Mk) ks
theorem noPs_wds (xs : List Wd) : noPs (xs.map eW) = true := noPs_map (α := Wd) xs
theorem tames_of {xs : List Val} (h : ∀ x ∈ xs, tame x = true) : tames xs = true := by
  induction xs with
  | nil => rfl
  | cons x xs ih => simp [tames, h x List.mem_cons_self, ih fun y hy => h y (List.mem_cons_of_mem _ hy)]
theorem tame_tupL {v : Val} {xs : List Val} (e : tupL v = some xs) (hl : xs.length ≤ 1000000) (h : ∀ x ∈ xs, tame x = true) : tame v = true := by
  cases v <;> first | (cases e; done) | (cases e; simp only [tame, hl, tames_of h, decide_true, Bool.and_self])
theorem tame_eM (m : Mk) : tame (eM m) = true := tame_tupL (xs := [.int m.1, .int m.2]) rfl (by simp) fun x hx => by
  simp at hx
  rcases hx with rfl | rfl <;> rfl
theorem tame_str {x : Str} (h : x.length ≤ 1000000) : tame (.str x) = true := by simp [tame, h]
instance : DecidableEq Fl := fun a b => decidable_of_decidable_of_iff (p := a.id = b.id ∧ a.first = b.first ∧ a.known = b.known ∧ a.names = b.names ∧ a.texts = b.texts) (by cases a; cases b; simp)
end
end MM
namespace MM
open PySem L2 PySem.W
noncomputable section
theorem isName_lname (c : Int) : isName (.str (sg (lname c))) = true := by
  have h := lname_len c
  rw [isName_sg]
  simp only [h, and_self, decide_true, Bool.true_and, List.all_eq_true, decide_eq_true_eq]
  exact fun x hx => lname_mem hx
theorem isText_ltext (c : Int) : isText (.str (sg (ltext c))) = true := by
  rw [isText_sg]
  exact decide_eq_true (ltext_len c)
theorem lknown_gk {c : Int} {w : Mk} : Gk (lknown c w) := ⟨lknown_nd, lknown_sd, fun m hm => by have := lknown_pos hm; unfold Rg; omega⟩
theorem lmarked_gw {c kind seed : Int} {j : Nat} {ks : List Mk} (hk : Gk ks) (hne : 0 < ks.length) (hj : (j = 0 ∧ kind = 0) ∨ (j = 1 ∧ kind = 1)) : Gw j ks (lmarked c ks kind seed) := by
  have w := lmarked_wf (c := c) (kind := kind) (seed := seed) hne hk.pos
  have mem : ∀ p ∈ lmarked c ks kind seed, p.1 ∈ marksTo c ks (mix c 9901 4).toNat ∧ p.2 = wd kind seed p.1 := fun p hp => by
    unfold lmarked at hp
    obtain ⟨m, hm, rfl⟩ := List.mem_map.mp hp
    exact ⟨srt_mem.mp hm, rfl⟩
  have fst : (lmarked c ks kind seed).map (·.1) = srt (marksTo c ks (mix c 9901 4).toNat) := by
    unfold lmarked
    rw [List.map_map]
    exact List.map_id _
  refine ⟨by rw [fst]; exact srt_nd marksTo_nd, w.sd, w.wi, fun p hp => ?_, w.ok, fun p hp => ?_⟩
  · obtain ⟨h1, _⟩ := mem p hp
    obtain ⟨k, e⟩ := marksTo_mem h1
    have hw := w.wi p hp
    unfold within at hw
    rw [List.any_eq_true] at hw
    obtain ⟨q, hq, h2⟩ := hw
    simp at h2
    have r := hk.rg q hq
    have hc : 1 ≤ p.1.2 := by
      rw [e]
      show 1 ≤ 1 + mix _ _ _
      have hpos : 0 < (pickM ks (mix (c + 7 * (k : Nat)) 9887 ks.length)).2 := hk.pos _ (pickM_mem (mix_nn (by omega)) (mix_lt (by omega)))
      have := mix_nn (c := c + 11 * (k : Nat)) (p := 9883) hpos
      omega
    unfold Rg at r ⊢
    omega
  · obtain ⟨_, h2⟩ := mem p hp
    rw [h2]
    unfold wd rightB
    rcases hj with ⟨rfl, rfl⟩ | ⟨rfl, rfl⟩
    · exact isName_lname _
    · exact isText_ltext _
theorem lmarked_len {c kind seed : Int} {ks : List Mk} (hk : Gk ks) (hne : 0 < ks.length) : (lmarked c ks kind seed).length ≤ 3 := (lmarked_wf (c := c) (kind := kind) (seed := seed) hne hk.pos).len
theorem lfile_gd {c seed : Int} {w : Mk} {x : Str} (h0 : 0 ≤ w.1 ∧ w.1 < 6) (h1 : 0 < w.2) (hx : isName (.str x) = true) (ho : PyData.strOk x = true) : Gd 3 (lfile c w x seed) := by
  have ne := lknown_ne (c := c) h0 h1
  refine ⟨by unfold Rg; show 0 ≤ w.1 ∧ w.1 ≤ 5 ∧ 1 ≤ w.2; omega, hx, ho, lknown_gk, ?_, lmarked_gw lknown_gk ne (.inl ⟨rfl, rfl⟩), lmarked_gw lknown_gk ne (.inr ⟨rfl, rfl⟩), lmarked_len lknown_gk ne, lmarked_len lknown_gk ne⟩
  obtain ⟨m, hm, e1, e2⟩ := lknown_own (c := c) h0 h1
  show within w (lknown c w) = true
  unfold within
  rw [List.any_eq_true]
  exact ⟨m, hm, by simp [e1, e2]⟩
end
end MM
namespace MM
open PySem L2
section
variable {X : Cx} {G : Glob} {W : WX} {r : Ad} {H : Hp} {h : HM} {l : Loc} {σ : St} {e v1 v2 : Expr} {m : EM} {pos : Pos} {rest : List Expr}
def fmtV : Val → Option Str
  | .str y => if y.length ≤ sizeLine then some y else none
  | .int i => if i.natAbs.log2 < 1920 then some (toString i) else none
  | _ => none
def eFmt (m : EM) : EM := fun l h => (m l h).bind fun v h1 => match fmtV v with
  | some y => .ok (.str y) h1
  | none => .bad
theorem me_fmt (he : ME X G W e m) : ME X G W (.FormattedValue e (-1) none pos) (eFmt m) := by
  refine ⟨fun pins s σ H Q I ⟨r, h, l, q, hl, p⟩ => (pe_fmt he).run pins s σ H Q I ⟨r, h, l, q, hl, (Post.bind p).imp fun x H1 ⟨r1, h1, w1, e1, q1, z1, p1⟩ => ?_⟩⟩
  cases z1 with
  | str y =>
    unfold fmtV at p1
    dsimp only at p1
    by_cases hz : y.length ≤ sizeLine
    · rw [if_pos hz] at p1; exact .inl ⟨y, rfl, hz, Post.here q1 (.str y) p1⟩
    · rw [if_neg hz] at p1; exact p1.elim
  | int i =>
    unfold fmtV at p1
    dsimp only at p1
    by_cases hz : i.natAbs.log2 < 1920
    · rw [if_pos hz] at p1; exact .inr ⟨i, rfl, hz, Post.here q1 (.str _) p1⟩
    · rw [if_neg hz] at p1; exact p1.elim
  | _ => exact p1.elim
def eJs : List EM → Str → EM
  | [], acc => fun _ h => .ok (.str acc) h
  | m :: ms, acc => fun l h => (m l h).bind fun v h1 => match v with
    | .str y => if (acc ++ y).length ≤ sizeLine then eJs ms (acc ++ y) l h1 else .bad
    | _ => .bad
theorem js_ok : ∀ (ms : List EM) (acc : Str) {r : Ad} {h : HM} {l : Loc} {σ : St} {H : Hp} {Q : VK}, Rel G r h H → LR G r H l σ → Post G W r H σ (VR G) Q (eJs ms acc l h) → tJs (ms.map (tE G W)) acc σ H fun out H1 => Q (.str out) H1
  | [], acc, r, h, l, σ, H, Q, q, hl, p => Post.here q (.str acc) p
  | m :: ms, acc, r, h, l, σ, H, Q, q, hl, p => by
    refine ⟨r, h, l, q, hl, (Post.bind p).imp fun x H1 ⟨r1, h1, w1, e1, q1, z1, p1⟩ => ?_⟩
    cases z1 with
    | str y =>
      dsimp only at p1
      by_cases hz : (acc ++ y).length ≤ sizeLine
      · rw [if_pos hz] at p1; exact ⟨y, rfl, hz, js_ok ms _ q1 (hl.ext e1) p1⟩
      · rw [if_neg hz] at p1; exact p1.elim
    | _ => exact p1.elim
theorem me_fstr (ms : List EM) (hj : PJ X (v1 :: v2 :: rest) (ms.map (tE G W))) : ME X G W (.JoinedStr (v1 :: v2 :: rest) pos) (eJs ms Str.empty) :=
  ⟨fun pins s σ H Q I ⟨r, h, l, q, hl, p⟩ => (pe_joined hj).run pins s σ H Q I (js_ok ms _ q hl p)⟩
end
end MM
namespace MM
open PySem L2 PySem.W
noncomputable section
def m_law_mark : FM := mF 1 (sRet (e2 vAdd (e2 vAdd (eBi bStr (aCons (e2 vIx (eVar 0) (eC (.int 0))) (aNil))) (eC (.str "."))) (eBi bStr (aCons (e2 vIx (eVar 0) (eC (.int 1))) (aNil)))))
def m_law_written : FM := mF 8 (sSeq (sAsg (eLc (iVal (e2 vIx (eVar 0) (eC (.int 3)))) (gTp 2 (gsCons (gNm 2) (gsCons (gNm 3) (gsNil)))) (tYesM) (e2 vAdd (e2 vAdd (eCall m_law_mark (aCons (eVar 2) (aNil))) (eC (.str "="))) (eVar 3)) [2, 3] frozen) (gNm 1))
  (sSeq (sAsg (eLc (iVal (e2 vIx (eVar 0) (eC (.int 4)))) (gTp 2 (gsCons (gNm 2) (gsCons (gNm 5) (gsNil)))) (tYesM) (e2 vAdd (e2 vAdd (e2 vAdd (e2 vAdd (eCall m_law_mark (aCons (eVar 2) (aNil))) (eC (.str "="))) (eBi bStr (aCons (eBi bLen (aCons (eVar 5) (aNil))) (aNil)))) (eC (.str ":"))) (eVar 5)) [2, 5] frozen) (gNm 4))
  (sSeq (sAsg (eBm .str mJoin (eC (.str ",")) (aCons (eLc (iVal (e2 vIx (eVar 0) (eC (.int 2)))) (gNm 2) (tYesM) (eCall m_law_mark (aCons (eVar 2) (aNil))) [2] frozen) (aNil))) (gNm 6))
  (sSeq (sAsg (e2 vAdd (e2 vAdd (e2 vAdd (e2 vAdd (e2 vAdd (eCall m_law_mark (aCons (e2 vIx (eVar 0) (eC (.int 0))) (aNil))) (eC (.str ";"))) (e2 vIx (eVar 0) (eC (.int 1)))) (eC (.str ";"))) (eVar 6)) (eC (.str ";"))) (gNm 7))
  (sRet (e2 vAdd (e2 vAdd (e2 vAdd (e2 vAdd (eVar 7) (eBm .str mJoin (eC (.str ",")) (aCons (eVar 1) (aNil)))) (eC (.str ";"))) (eBm .str mJoin (eC (.str "")) (aCons (eVar 4) (aNil)))) (eC (.str ";"))))))))
def m_mark_text : FM := mF 1 (sRet (eJs [eFmt (e2 vIx (eVar 0) (eC (.int 0))), eC (.str "."), eFmt (e2 vIx (eVar 0) (eC (.int 1)))] Str.empty))
def m_written : FM := mF 8 (sSeq (sAsg (eLc (iVal (e2 vIx (eVar 0) (eC (.int 3)))) (gTp 2 (gsCons (gNm 2) (gsCons (gNm 3) (gsNil)))) (tYesM) (e2 vAdd (e2 vAdd (eCall m_mark_text (aCons (eVar 2) (aNil))) (eC (.str "="))) (eVar 3)) [2, 3] frozen) (gNm 1))
  (sSeq (sAsg (eLc (iVal (e2 vIx (eVar 0) (eC (.int 4)))) (gTp 2 (gsCons (gNm 2) (gsCons (gNm 5) (gsNil)))) (tYesM) (e2 vAdd (e2 vAdd (e2 vAdd (e2 vAdd (eCall m_mark_text (aCons (eVar 2) (aNil))) (eC (.str "="))) (eBi bStr (aCons (eBi bLen (aCons (eVar 5) (aNil))) (aNil)))) (eC (.str ":"))) (eVar 5)) [2, 5] frozen) (gNm 4))
  (sSeq (sAsg (eDisp mkLst (aCons (eCall m_mark_text (aCons (e2 vIx (eVar 0) (eC (.int 0))) (aNil))) (aCons (e2 vIx (eVar 0) (eC (.int 1))) (aCons (eBm .str mJoin (eC (.str ",")) (aCons (eLc (iVal (e2 vIx (eVar 0) (eC (.int 2)))) (gNm 2) (tYesM) (eCall m_mark_text (aCons (eVar 2) (aNil))) [2] frozen) (aNil))) (aNil))))) (gNm 6))
  (sSeq (sAsg (e2 vAdd (eVar 6) (eDisp mkLst (aCons (eBm .str mJoin (eC (.str ",")) (aCons (eVar 1) (aNil))) (aCons (eBm .str mJoin (eC (.str "")) (aCons (eVar 4) (aNil))) (aNil))))) (gNm 6))
  (sRet (eBm .str mJoin (eC (.str "")) (aCons (eLc (iVal (eVar 6)) (gNm 7) (tYesM) (e2 vAdd (eVar 7) (eC (.str ";"))) [7] frozen) (aNil))))))))
section
variable {l : Loc} {h : HM} {m : EM} {ms : List EM} {acc : Str}
@[simp] theorem ev_eFmt : eFmt m l h = (m l h).bind fun v h1 => match fmtV v with
  | some y => .ok (.str y) h1
  | none => .bad := (rfl)
@[simp] theorem ev_js0 : eJs [] acc l h = .ok (.str acc) h := (rfl)
@[simp] theorem ev_jsS : eJs (m :: ms) acc l h = (m l h).bind fun v h1 => match v with
    | .str y => if (acc ++ y).length ≤ sizeLine then eJs ms (acc ++ y) l h1 else .bad
    | _ => .bad := (rfl)
end
def digs (n : Int) : List Nat := TL.numL n.toNat
def big : Nat := 10 ^ 576
def Sm (n : Int) : Prop := 0 ≤ n ∧ n < (big : Nat)
theorem Sm.log {n : Int} (h : Sm n) : n.natAbs.log2 < 1920 := by
  have h1 : n.natAbs < big := by have := h.1; have := h.2; omega
  have h2 : big < 2 ^ 1920 := by unfold big; decide +kernel
  by_cases h0 : n.natAbs = 0
  · rw [h0]; decide
  · exact (Nat.log2_lt h0).mpr (Nat.lt_trans h1 h2)
theorem num_sg {n : Int} (h : 0 ≤ n) : (Str.ofString (toString n)) = sg (digs n) := by
  obtain ⟨k, rfl⟩ := Int.eq_ofNat_of_zero_le h
  exact SX.num_S k
theorem digs_len {n : Int} (h : Sm n) : (digs n).length ≤ 576 := by
  refine TL.numL_len (by decide) ?_
  have := h.1
  have := h.2
  unfold big at this
  omega
theorem digs_ne (n : Int) : digs n ≠ [] := TL.numL_ne _
theorem digs_free {n : Int} {s : Nat} (h : s < 48 ∨ 57 < s) : s ∉ digs n := TL.numL_free h
theorem fmt_num {n : Int} (h : Sm n) : fmtV (.int n) = some (sg (digs n)) := by
  unfold fmtV
  dsimp only
  rw [if_pos h.log]
  exact congrArg some (num_sg h.1)
theorem str_num {n : Int} {h : HM} (hs : Sm n) : bStr [.int n] h = .ok (.str (sg (digs n))) h := by
  unfold bStr
  dsimp only
  rw [if_pos hs.log]
  exact congrArg (fun z => Res.ok (Val.str z) h) (num_sg hs.1)
def SmM (m : Mk) : Prop := Sm m.1 ∧ Sm m.2
def markL (m : Mk) : List Nat := digs m.1 ++ 46 :: digs m.2
theorem markL_len {m : Mk} (h : SmM m) : (markL m).length ≤ 1153 := by
  have h1 := digs_len h.1
  have h2 := digs_len h.2
  simp only [markL, List.length_append, List.length_cons]
  omega
theorem dot_eq : Str.ofString "." = sg [46] := by decide +kernel
theorem empty_eq : Str.empty = sg [] := rfl
theorem at_markText {m : Mk} {h : HM} (hm : SmM m) : m_mark_text [eM m] h = .ok (.str (sg (markL m))) h := by
  have h1 := digs_len hm.1
  have h2 := digs_len hm.2
  have k1 : (Str.empty ++ sg (digs m.1)).length ≤ sizeLine := by rw [empty_eq, sg_app, sg_len, sizeLine_eq]; simp; omega
  have k2 : (Str.empty ++ sg (digs m.1) ++ sg [46]).length ≤ sizeLine := by rw [empty_eq, sg_app, sg_app, sg_len, sizeLine_eq]; simp; omega
  have k3 : (Str.empty ++ sg (digs m.1) ++ sg [46] ++ sg (digs m.2)).length ≤ sizeLine := by rw [empty_eq, sg_app, sg_app, sg_app, sg_len, sizeLine_eq]; simp; omega
  have x0 : ∀ h, vIx (.tup [.int m.1, .int m.2]) (.int 0) h = .ok (.int m.1) h := fun h => ix0
  have x1 : ∀ h, vIx (.tup [.int m.1, .int m.2]) (.int 1) h = .ok (.int m.2) h := fun h => ix1
  unfold m_mark_text mF
  rw [dot_eq]
  show (match sRet _ [some (.tup [.int m.1, .int m.2])] h with | .nx _ h1 => _ | .rt v h1 => _ | .exc c _ h1 => _ | .bad => _) = _
  simp only [ev_sRet, ev_jsS, ev_js0, ev_eFmt, ev_e2, ev_Var0, ev_C, Res.bind_ok, x0, x1, fmt_num hm.1, fmt_num hm.2]
  simp only [if_pos k1, if_pos k2, if_pos k3, Res.bind_ok, Res.thn_ok]
  rw [empty_eq, sg_app, sg_app, sg_app]
  simp [markL]
theorem at_lawMark {m : Mk} {h : HM} (hm : SmM m) : m_law_mark [eM m] h = .ok (.str (sg (markL m))) h := by
  have h1 := digs_len hm.1
  have h2 := digs_len hm.2
  have x0 : ∀ h, vIx (.tup [.int m.1, .int m.2]) (.int 0) h = .ok (.int m.1) h := fun h => ix0
  have x1 : ∀ h, vIx (.tup [.int m.1, .int m.2]) (.int 1) h = .ok (.int m.2) h := fun h => ix1
  have a1 : ∀ h, vAdd (.str (sg (digs m.1))) (.str (sg [46])) h = .ok (.str (sg (digs m.1 ++ [46]))) h := fun h => addS (by simp; omega)
  have a2 : ∀ h, vAdd (.str (sg (digs m.1 ++ [46]))) (.str (sg (digs m.2))) h = .ok (.str (sg (digs m.1 ++ [46] ++ digs m.2))) h := fun h => addS (by simp; omega)
  unfold m_law_mark mF
  rw [dot_eq]
  show (match sRet _ [some (.tup [.int m.1, .int m.2])] h with | .nx _ h1 => _ | .rt v h1 => _ | .exc c _ h1 => _ | .bad => _) = _
  simp only [ev_sRet, ev_eBi, ev_aCons, ev_aNil, ev_e2, ev_Var0, ev_C, Res.bind_ok, x0, x1, str_num hm.1, str_num hm.2, a1, a2, Res.thn_ok]
  simp [markL]
theorem joinL_len (sep : List Nat) : ∀ xs : List (List Nat), (TL.joinL sep xs).length ≤ (xs.map (·.length)).sum + xs.length * sep.length
  | [] => by simp [TL.joinL]
  | [p] => by simp [TL.joinL]
  | p :: q :: r => by
    have ih := joinL_len sep (q :: r)
    have e : TL.joinL sep (p :: q :: r) = p ++ (sep ++ TL.joinL sep (q :: r)) := rfl
    have e2 : (p :: q :: r).length * sep.length = (q :: r).length * sep.length + sep.length := by
      rw [List.length_cons, Nat.add_mul, Nat.one_mul]
    rw [e, e2, List.map_cons, List.sum_cons, List.length_append, List.length_append]
    omega
theorem sum_le {xs : List (List Nat)} {b : Nat} (h : ∀ x ∈ xs, x.length ≤ b) : (xs.map (·.length)).sum ≤ xs.length * b := by
  induction xs with
  | nil => simp
  | cons x xs ih =>
    have h1 := h x (by simp)
    have h2 := ih fun y hy => h y (by simp [hy])
    simp only [List.map_cons, List.sum_cons, List.length_cons]
    rw [Nat.add_mul, Nat.one_mul]
    omega
theorem join_sg {sep : List Nat} {xs : List (List Nat)} {b : Nat} {h : HM} (hs : sep.length ≤ 1) (hn : xs.length ≤ 1000) (hb : ∀ x ∈ xs, x.length ≤ b) (hb2 : b ≤ 5000) : mJoin (.str (sg sep)) [.lst (xs.map fun x => .str (sg x))] h = .ok (.str (sg (TL.joinL sep xs))) h := by
  have e : (xs.map fun x => Val.str (sg x)) = (xs.map sg).map Val.str := by simp
  have h1 := sum_le hb
  have h2 : xs.length * b ≤ 1000 * 5000 := Nat.mul_le_mul hn hb2
  have h3 : xs.length * sep.length ≤ 1000 * 1 := Nat.mul_le_mul hn hs
  have ej : Txt.join (sg sep) (xs.map sg) = sg (TL.joinL sep xs) := SX.join_S sep xs
  have hm : (List.map (fun x => x.length) (List.map sg xs)) = xs.map (·.length) := by simp
  rw [e]
  unfold mJoin
  simp only [seqL, Option.bind, strsOf_map]
  rw [ej, hm, List.length_map, sg_len, if_pos (by omega)]
theorem join_any {sep : List Nat} {xs : List (List Nat)} {h : HM} (hz : (xs.map (·.length)).sum + xs.length * sep.length ≤ 16777216) : mJoin (.str (sg sep)) [.lst (xs.map fun x => .str (sg x))] h = .ok (.str (sg (TL.joinL sep xs))) h := by
  have e : (xs.map fun x => Val.str (sg x)) = (xs.map sg).map Val.str := by simp
  have ej : Txt.join (sg sep) (xs.map sg) = sg (TL.joinL sep xs) := SX.join_S sep xs
  have hm : (List.map (fun x => x.length) (List.map sg xs)) = xs.map (·.length) := by simp
  rw [e]
  unfold mJoin
  simp only [seqL, Option.bind, strsOf_map]
  rw [ej, hm, List.length_map, sg_len, if_pos hz]
def tl (x : Str) : List Nat := x.cps.toList
theorem sg_tl (x : Str) : sg (tl x) = x := (sg_of x).symm
theorem tl_len (x : Str) : (tl x).length = x.length := by conv => rhs; rw [← sg_tl x, sg_len]
@[simp] theorem tl_sg (l : List Nat) : tl (sg l) = l := sg_list l
def nameP (p : Wd) : List Nat := markL p.1 ++ 61 :: tl p.2
def textP (p : Wd) : List Nat := markL p.1 ++ 61 :: (digs (p.2.length : Nat) ++ 58 :: tl p.2)
def wrL (f : Fl) : List Nat := markL f.id ++ 59 :: (tl f.first ++ 59 :: (TL.joinL [44] (f.known.map markL) ++ 59 :: (TL.joinL [44] (f.names.map nameP) ++ 59 :: ((f.texts.map textP).flatten ++ [59]))))
/-- what can be written -/
structure Wr (f : Fl) : Prop where
  id : SmM f.id
  first : f.first.length ≤ 1000
  kn : ∀ m ∈ f.known, SmM m
  kl : f.known.length ≤ 1000
  nm : ∀ p ∈ f.names, SmM p.1 ∧ p.2.length ≤ 1000
  nl : f.names.length ≤ 1000
  tx : ∀ p ∈ f.texts, SmM p.1 ∧ p.2.length ≤ 1000
  tl : f.texts.length ≤ 1000
theorem sm_small {n : Nat} (h : n ≤ 1000000) : Sm (n : Nat) := by
  refine ⟨by omega, ?_⟩
  have : 1000001 ≤ big := by unfold big; decide +kernel
  omega
theorem nameP_len {p : Wd} (h : SmM p.1) (hl : p.2.length ≤ 1000) : (nameP p).length ≤ 2200 := by
  have := markL_len h
  have := tl_len p.2
  simp only [nameP, List.length_append, List.length_cons]
  omega
theorem textP_len {p : Wd} (h : SmM p.1) (hl : p.2.length ≤ 1000) : (textP p).length ≤ 2800 := by
  have := markL_len h
  have := tl_len p.2
  have := digs_len (sm_small (n := p.2.length) (by omega))
  simp only [textP, List.length_append, List.length_cons]
  omega
theorem eq61 : Str.ofString "=" = sg [61] := by decide +kernel
theorem eq58 : Str.ofString ":" = sg [58] := by decide +kernel
theorem eq44 : Str.ofString "," = sg [44] := by decide +kernel
theorem eq59 : Str.ofString ";" = sg [59] := by decide +kernel
theorem joinL_nil (xs : List (List Nat)) : TL.joinL [] xs = xs.flatten := by
  induction xs with
  | nil => rfl
  | cons x xs ih =>
    cases xs with
    | nil => simp [TL.joinL]
    | cons y ys => simp only [TL.joinL, List.flatten_cons, List.nil_append] at ih ⊢; rw [ih]
section
variable {mt : FM} (hmt : ∀ (m : Mk) (h : HM), SmM m → mt [eM m] h = .ok (.str (sg (markL m))) h)
include hmt
theorem wr_names {f : Fl} {k : Val} {a1 a2 a3 a4 a5 a6 a7 : Option Val} {h : HM} (hw : Wr f) : (eLc (iVal (e2 vIx (eVar 0) (eC (.int 3)))) (gTp 2 (gsCons (gNm 2) (gsCons (gNm 3) (gsNil)))) (tYesM) (e2 vAdd (e2 vAdd (eCall mt (aCons (eVar 2) (aNil))) (eC (.str (sg [61])))) (eVar 3)) [2, 3] frozen) [some (eFk f k), a1, a2, a3, a4, a5, a6, a7] h = .ok (.lst ((f.names.map nameP).map fun x => .str (sg x))) h := by
  have x3 : vIx (eFk f k) (.int 3) h = .ok (.tup (f.names.map eW)) h := rfl
  simp only [ev_eLc, ev_iVal, ev_e2, ev_Var0, ev_C, Res.bind_ok, x3]
  rw [src_tup (xs := f.names.map eW) rfl, Res.bind_ok, lc_mapM (fun p => .str (sg (nameP p))) (fun p hp => ⟨_, rfl, ?_⟩) (by rw [sizeLine_eq]; exact Nat.le_trans hw.nl (by decide))]
  · simp
  · obtain ⟨hm, hl⟩ := hw.nm p hp
    have h1 := markL_len hm
    have h2 := tl_len p.2
    have b1 : ∀ h, vAdd (.str (sg (markL p.1))) (.str (sg [61])) h = .ok (.str (sg (markL p.1 ++ [61]))) h := fun h => addS (by simp; omega)
    have b2 : ∀ h, vAdd (.str (sg (markL p.1 ++ [61]))) (.str p.2) h = .ok (.str (sg (markL p.1 ++ [61] ++ tl p.2))) h := fun h => by
      conv => lhs; rw [← sg_tl p.2]
      exact addS (by simp; omega)
    show (e2 vAdd (e2 vAdd (eCall mt (aCons (eVar 2) (aNil))) (eC (.str (sg [61])))) (eVar 3)) [some (eFk f k), a1, some (eM p.1), some (.str p.2), a4, a5, a6, a7] h = _
    simp only [ev_e2, ev_eCall, ev_aCons, ev_aNil, ev_VarS, ev_Var0, ev_C, Res.bind_ok, hmt _ _ hm, b1, b2]
    simp [nameP]
theorem wr_texts {f : Fl} {k : Val} {a1 a2 a3 a4 a5 a6 a7 : Option Val} {h : HM} (hw : Wr f) : (eLc (iVal (e2 vIx (eVar 0) (eC (.int 4)))) (gTp 2 (gsCons (gNm 2) (gsCons (gNm 5) (gsNil)))) (tYesM) (e2 vAdd (e2 vAdd (e2 vAdd (e2 vAdd (eCall mt (aCons (eVar 2) (aNil))) (eC (.str (sg [61])))) (eBi bStr (aCons (eBi bLen (aCons (eVar 5) (aNil))) (aNil)))) (eC (.str (sg [58])))) (eVar 5)) [2, 5] frozen) [some (eFk f k), a1, a2, a3, a4, a5, a6, a7] h = .ok (.lst ((f.texts.map textP).map fun x => .str (sg x))) h := by
  have x3 : vIx (eFk f k) (.int 4) h = .ok (.tup (f.texts.map eW)) h := rfl
  simp only [ev_eLc, ev_iVal, ev_e2, ev_Var0, ev_C, Res.bind_ok, x3]
  rw [src_tup (xs := f.texts.map eW) rfl, Res.bind_ok, lc_mapM (fun p => .str (sg (textP p))) (fun p hp => ⟨_, rfl, ?_⟩) (by rw [sizeLine_eq]; exact Nat.le_trans hw.tl (by decide))]
  · simp
  · obtain ⟨hm, hl⟩ := hw.tx p hp
    have h1 := markL_len hm
    have h2 := tl_len p.2
    have hs := sm_small (n := p.2.length) (by omega)
    have h3 := digs_len hs
    have b1 : ∀ h, vAdd (.str (sg (markL p.1))) (.str (sg [61])) h = .ok (.str (sg (markL p.1 ++ [61]))) h := fun h => addS (by simp; omega)
    have b2 : ∀ h, vAdd (.str (sg (markL p.1 ++ [61]))) (.str (sg (digs (p.2.length : Nat)))) h = .ok (.str (sg (markL p.1 ++ [61] ++ digs (p.2.length : Nat)))) h := fun h => addS (by simp; omega)
    have b3 : ∀ h, vAdd (.str (sg (markL p.1 ++ [61] ++ digs (p.2.length : Nat)))) (.str (sg [58])) h = .ok (.str (sg (markL p.1 ++ [61] ++ digs (p.2.length : Nat) ++ [58]))) h := fun h => addS (by simp; omega)
    have b4 : ∀ h, vAdd (.str (sg (markL p.1 ++ [61] ++ digs (p.2.length : Nat) ++ [58]))) (.str p.2) h = .ok (.str (sg (markL p.1 ++ [61] ++ digs (p.2.length : Nat) ++ [58] ++ tl p.2))) h := fun h => by
      generalize digs (p.2.length : Nat) = D at *
      conv => lhs; rw [← sg_tl p.2]
      exact addS (by simp; omega)
    have ln : ∀ h, bLen [.str p.2] h = .ok (.int (p.2.length : Nat)) h := fun h => ev_lenS (by rw [sizeLine_eq]; omega)
    have sn : ∀ h, bStr [.int (p.2.length : Nat)] h = .ok (.str (sg (digs (p.2.length : Nat)))) h := fun h => str_num hs
    show (e2 vAdd (e2 vAdd (e2 vAdd (e2 vAdd (eCall mt (aCons (eVar 2) (aNil))) (eC (.str (sg [61])))) (eBi bStr (aCons (eBi bLen (aCons (eVar 5) (aNil))) (aNil)))) (eC (.str (sg [58])))) (eVar 5)) [some (eFk f k), a1, some (eM p.1), a3, a4, some (.str p.2), a6, a7] h = _
    simp only [ev_e2, ev_eCall, ev_eBi, ev_aCons, ev_aNil, ev_VarS, ev_Var0, ev_C, Res.bind_ok, hmt _ _ hm, ln, sn, b1, b2, b3, b4]
    simp [textP]
theorem wr_known {f : Fl} {k : Val} {a1 a2 a3 a4 a5 a6 a7 : Option Val} {h : HM} (hw : Wr f) (hk : tupL k = some (f.known.map eM)) : (eLc (iVal (e2 vIx (eVar 0) (eC (.int 2)))) (gNm 2) (tYesM) (eCall mt (aCons (eVar 2) (aNil))) [2] frozen) [some (eFk f k), a1, a2, a3, a4, a5, a6, a7] h = .ok (.lst ((f.known.map markL).map fun x => .str (sg x))) h := by
  have x3 : vIx (eFk f k) (.int 2) h = .ok k h := rfl
  simp only [ev_eLc, ev_iVal, ev_e2, ev_Var0, ev_C, Res.bind_ok, x3]
  rw [src_tup hk, Res.bind_ok, lc_mapM (fun p => .str (sg (markL p))) (fun p hp => ⟨_, rfl, ?_⟩) (by rw [sizeLine_eq]; exact Nat.le_trans hw.kl (by decide))]
  · simp
  · show (eCall mt (aCons (eVar 2) (aNil))) [some (eFk f k), a1, some (eM p), a3, a4, a5, a6, a7] h = _
    simp only [ev_eCall, ev_aCons, ev_aNil, ev_VarS, ev_Var0, Res.bind_ok, hmt _ _ (hw.kn p hp)]
end
theorem known_len {f : Fl} (hw : Wr f) : (TL.joinL [44] (f.known.map markL)).length ≤ 1200000 := by
  have h1 := joinL_len [44] (f.known.map markL)
  have h2 := sum_le (xs := f.known.map markL) (b := 1153) (fun x hx => by obtain ⟨m, hm, rfl⟩ := List.mem_map.mp hx; exact markL_len (hw.kn m hm))
  have h3 := hw.kl
  simp only [List.length_map, List.length_cons, List.length_nil] at h1 h2
  omega
theorem names_len {f : Fl} (hw : Wr f) : (TL.joinL [44] (f.names.map nameP)).length ≤ 2300000 := by
  have h1 := joinL_len [44] (f.names.map nameP)
  have h2 := sum_le (xs := f.names.map nameP) (b := 2200) (fun x hx => by obtain ⟨m, hm, rfl⟩ := List.mem_map.mp hx; exact nameP_len (hw.nm m hm).1 (hw.nm m hm).2)
  have h3 := hw.nl
  simp only [List.length_map, List.length_cons, List.length_nil] at h1 h2
  omega
theorem texts_len {f : Fl} (hw : Wr f) : (f.texts.map textP).flatten.length ≤ 2900000 := by
  have h1 := joinL_len [] (f.texts.map textP)
  have h2 := sum_le (xs := f.texts.map textP) (b := 2800) (fun x hx => by obtain ⟨m, hm, rfl⟩ := List.mem_map.mp hx; exact textP_len (hw.tx m hm).1 (hw.tx m hm).2)
  have h3 := hw.tl
  rw [joinL_nil] at h1
  simp only [List.length_map, List.length_cons, List.length_nil] at h1 h2
  omega
section
variable {f : Fl} {h : HM}
theorem jn_known (hw : Wr f) : mJoin (.str (sg [44])) [.lst ((f.known.map markL).map fun x => .str (sg x))] h = .ok (.str (sg (TL.joinL [44] (f.known.map markL)))) h :=
  join_sg (b := 1153) (by simp) (by simpa using hw.kl) (fun x hx => by obtain ⟨m, hm, rfl⟩ := List.mem_map.mp hx; exact markL_len (hw.kn m hm)) (by decide)
theorem jn_names (hw : Wr f) : mJoin (.str (sg [44])) [.lst ((f.names.map nameP).map fun x => .str (sg x))] h = .ok (.str (sg (TL.joinL [44] (f.names.map nameP)))) h :=
  join_sg (b := 2200) (by simp) (by simpa using hw.nl) (fun x hx => by obtain ⟨m, hm, rfl⟩ := List.mem_map.mp hx; exact nameP_len (hw.nm m hm).1 (hw.nm m hm).2) (by decide)
theorem jn_texts (hw : Wr f) : mJoin (.str (sg [])) [.lst ((f.texts.map textP).map fun x => .str (sg x))] h = .ok (.str (sg (f.texts.map textP).flatten)) h := by
  rw [join_sg (b := 2800) (by simp) (by simpa using hw.tl) (fun x hx => by obtain ⟨m, hm, rfl⟩ := List.mem_map.mp hx; exact textP_len (hw.tx m hm).1 (hw.tx m hm).2) (by decide), joinL_nil]
end
theorem at_written {f : Fl} {k : Val} {h : HM} (hw : Wr f) (hk : tupL k = some (f.known.map eM)) : m_written [eFk f k] h = .ok (.str (sg (wrL f))) h := by
  have hmt : ∀ (m : Mk) (h : HM), SmM m → m_mark_text [eM m] h = .ok (.str (sg (markL m))) h := fun m h hm => at_markText hm
  have h1 := markL_len hw.id
  have h2 := known_len hw
  have h3 := names_len hw
  have h4 := texts_len hw
  have h5 := hw.first
  have h6 := tl_len f.first
  have i0 : ∀ h, vIx (eFk f k) (.int 0) h = .ok (eM f.id) h := fun h => rfl
  have i1 : ∀ h, vIx (eFk f k) (.int 1) h = .ok (.str f.first) h := fun h => rfl
  unfold m_written mF
  rw [eq61, eq58, eq44, eq59, none_eq]
  have n1 := fun a1 a2 a3 a4 a5 a6 a7 h => wr_names hmt (f := f) (k := k) (a1 := a1) (a2 := a2) (a3 := a3) (a4 := a4) (a5 := a5) (a6 := a6) (a7 := a7) (h := h) hw
  have n2 := fun a1 a2 a3 a4 a5 a6 a7 h => wr_texts hmt (f := f) (k := k) (a1 := a1) (a2 := a2) (a3 := a3) (a4 := a4) (a5 := a5) (a6 := a6) (a7 := a7) (h := h) hw
  have n3 := fun a1 a2 a3 a4 a5 a6 a7 h => wr_known hmt (f := f) (k := k) (a1 := a1) (a2 := a2) (a3 := a3) (a4 := a4) (a5 := a5) (a6 := a6) (a7 := a7) (h := h) hw hk
  have j1 := fun h => jn_known (f := f) (h := h) hw
  have j2 := fun h => jn_names (f := f) (h := h) hw
  have j3 := fun h => jn_texts (f := f) (h := h) hw
  have m1 := fun h => at_markText (m := f.id) (h := h) hw.id
  generalize hA : markL f.id = A at *
  generalize hB : TL.joinL [44] (f.known.map markL) = B at *
  generalize hC : TL.joinL [44] (f.names.map nameP) = C at *
  generalize hD : (f.texts.map textP).flatten = D at *
  have wf : wrL f = A ++ 59 :: (tl f.first ++ 59 :: (B ++ 59 :: (C ++ 59 :: (D ++ [59])))) := by rw [wrL, hA, hB, hC, hD]
  rw [wf]
  have lc : ∀ (a1 a2 a3 a4 a5 a7 : Option Val) (h : HM), (eLc (iVal (eVar 6)) (gNm 7) tYesM (e2 vAdd (eVar 7) (eC (.str (sg [59])))) [7] frozen) [some (eFk f k), a1, a2, a3, a4, a5, some (.lst ([A, tl f.first, B, C, D].map fun x => .str (sg x))), a7] h = .ok (.lst ([A, tl f.first, B, C, D].map fun x => .str (sg (x ++ [59])))) h := by
    intro a1 a2 a3 a4 a5 a7 h
    simp only [ev_eLc, ev_iVal, ev_VarS, ev_Var0, Res.bind_ok]
    rw [show srcOf (.lst ([A, tl f.first, B, C, D].map fun x => .str (sg x))) h = .ok (srcItems ([A, tl f.first, B, C, D].map fun x => .str (sg x))) h from rfl, Res.bind_ok,
      lc_mapM (e := fun x => .str (sg x)) (fun x => .str (sg (x ++ [59]))) (fun x hx => ⟨_, rfl, ?_⟩) (by rw [sizeLine_eq]; simp)]
    · simp
    · have hx2 : x.length ≤ 3000000 := by
        simp only [List.mem_cons, List.not_mem_nil, or_false] at hx
        rcases hx with rfl | rfl | rfl | rfl | rfl <;> omega
      show (e2 vAdd (eVar 7) (eC (.str (sg [59])))) [some (eFk f k), a1, a2, a3, a4, a5, some (.lst ([A, tl f.first, B, C, D].map fun x => .str (sg x))), some (.str (sg x))] h = _
      simp only [ev_e2, ev_VarS, ev_Var0, ev_C, Res.bind_ok]
      exact addS (by simp; omega)
  have jl : ∀ h, mJoin (.str (sg [])) [.lst ([A, tl f.first, B, C, D].map fun x => .str (sg (x ++ [59])))] h = .ok (.str (sg (A ++ 59 :: (tl f.first ++ 59 :: (B ++ 59 :: (C ++ 59 :: (D ++ [59]))))))) h := by
    intro h
    have := join_any (sep := []) (xs := [A, tl f.first, B, C, D].map (· ++ [59])) (h := h) (by simp; omega)
    rw [joinL_nil] at this
    simpa using this
  have ad : ∀ h, vAdd (.lst [.str (sg A), .str f.first, .str (sg B)]) (.lst [.str (sg C), .str (sg D)]) h = .ok (.lst ([A, tl f.first, B, C, D].map fun x => .str (sg x))) h := by
    intro h
    have := sg_tl f.first
    simp only [vAdd, seqL]
    rw [if_pos (by rw [sizeLine_eq]; simp)]
    simp [this]
  have mk : ∀ h, mkLst [.str (sg A), .str f.first, .str (sg B)] h = .ok (.lst [.str (sg A), .str f.first, .str (sg B)]) h := fun h => ev_mkLst (by simp)
  have mk2 : ∀ h, mkLst [.str (sg C), .str (sg D)] h = .ok (.lst [.str (sg C), .str (sg D)]) h := fun h => ev_mkLst (by simp)
  show (match sSeq _ _ [some (eFk f k), none, none, none, none, none, none, none] h with | .nx _ h1 => _ | .rt v h1 => _ | .exc c _ h1 => _ | .bad => _) = _
  simp only [ev_sSeq, ev_sAsg, ev_sRet, n1, n2, n3, ev_gNm0, ev_gNmS, Res.thn_ok, Option.map_some, ev_eDisp, ev_aCons, ev_aNil, ev_eCall, ev_e2, ev_VarS, ev_Var0, ev_C, Res.bind_ok, i0, i1, m1, ev_eBm, ev_kdS, if_true, j1, j2, j3, mk, mk2, ad, lc, jl]
theorem law_written_steps {f : Fl} {A B C D : List Nat} (h1 : A.length ≤ 1153) (h2 : B.length ≤ 1200000) (h3 : C.length ≤ 2300000) (h4 : D.length ≤ 2900000) (h5 : f.first.length ≤ 1000) (h : HM) :
    vAdd (.str (sg A)) (.str (sg [59])) h = .ok (.str (sg (A ++ [59]))) h ∧ vAdd (.str (sg (A ++ [59]))) (.str f.first) h = .ok (.str (sg (A ++ [59] ++ tl f.first))) h ∧
    vAdd (.str (sg (A ++ [59] ++ tl f.first))) (.str (sg [59])) h = .ok (.str (sg (A ++ [59] ++ tl f.first ++ [59]))) h ∧ vAdd (.str (sg (A ++ [59] ++ tl f.first ++ [59]))) (.str (sg B)) h = .ok (.str (sg (A ++ [59] ++ tl f.first ++ [59] ++ B))) h ∧
    vAdd (.str (sg (A ++ [59] ++ tl f.first ++ [59] ++ B))) (.str (sg [59])) h = .ok (.str (sg (A ++ [59] ++ tl f.first ++ [59] ++ B ++ [59]))) h ∧ vAdd (.str (sg (A ++ [59] ++ tl f.first ++ [59] ++ B ++ [59]))) (.str (sg C)) h = .ok (.str (sg (A ++ [59] ++ tl f.first ++ [59] ++ B ++ [59] ++ C))) h ∧
    vAdd (.str (sg (A ++ [59] ++ tl f.first ++ [59] ++ B ++ [59] ++ C))) (.str (sg [59])) h = .ok (.str (sg (A ++ [59] ++ tl f.first ++ [59] ++ B ++ [59] ++ C ++ [59]))) h ∧ vAdd (.str (sg (A ++ [59] ++ tl f.first ++ [59] ++ B ++ [59] ++ C ++ [59]))) (.str (sg D)) h = .ok (.str (sg (A ++ [59] ++ tl f.first ++ [59] ++ B ++ [59] ++ C ++ [59] ++ D))) h ∧
    vAdd (.str (sg (A ++ [59] ++ tl f.first ++ [59] ++ B ++ [59] ++ C ++ [59] ++ D))) (.str (sg [59])) h = .ok (.str (sg (A ++ [59] ++ tl f.first ++ [59] ++ B ++ [59] ++ C ++ [59] ++ D ++ [59]))) h := by
  have h6 := tl_len f.first
  refine ⟨addS (by simp; omega), ?_, addS (by simp; omega), addS (by simp; omega), addS (by simp; omega), addS (by simp; omega), addS (by simp; omega), addS (by simp; omega), addS (by simp; omega)⟩
  conv => lhs; rw [← sg_tl f.first]
  exact addS (by simp; omega)
theorem at_lawWritten {f : Fl} {k : Val} {h : HM} (hw : Wr f) (hk : tupL k = some (f.known.map eM)) : m_law_written [eFk f k] h = .ok (.str (sg (wrL f))) h := by
  have hmt : ∀ (m : Mk) (h : HM), SmM m → m_law_mark [eM m] h = .ok (.str (sg (markL m))) h := fun m h hm => at_lawMark hm
  have h1 := markL_len hw.id
  have h2 := known_len hw
  have h3 := names_len hw
  have h4 := texts_len hw
  have h5 := hw.first
  have i0 : ∀ h, vIx (eFk f k) (.int 0) h = .ok (eM f.id) h := fun h => rfl
  have i1 : ∀ h, vIx (eFk f k) (.int 1) h = .ok (.str f.first) h := fun h => rfl
  unfold m_law_written mF
  rw [eq61, eq58, eq44, eq59, none_eq]
  have n1 := fun a1 a2 a3 a4 a5 a6 a7 h => wr_names hmt (f := f) (k := k) (a1 := a1) (a2 := a2) (a3 := a3) (a4 := a4) (a5 := a5) (a6 := a6) (a7 := a7) (h := h) hw
  have n2 := fun a1 a2 a3 a4 a5 a6 a7 h => wr_texts hmt (f := f) (k := k) (a1 := a1) (a2 := a2) (a3 := a3) (a4 := a4) (a5 := a5) (a6 := a6) (a7 := a7) (h := h) hw
  have n3 := fun a1 a2 a3 a4 a5 a6 a7 h => wr_known hmt (f := f) (k := k) (a1 := a1) (a2 := a2) (a3 := a3) (a4 := a4) (a5 := a5) (a6 := a6) (a7 := a7) (h := h) hw hk
  have j1 := fun h => jn_known (f := f) (h := h) hw
  have j2 := fun h => jn_names (f := f) (h := h) hw
  have j3 := fun h => jn_texts (f := f) (h := h) hw
  have m1 := fun h => hmt f.id h hw.id
  generalize hA : markL f.id = A at *
  generalize hB : TL.joinL [44] (f.known.map markL) = B at *
  generalize hC : TL.joinL [44] (f.names.map nameP) = C at *
  generalize hD : (f.texts.map textP).flatten = D at *
  have wf : wrL f = A ++ 59 :: (tl f.first ++ 59 :: (B ++ 59 :: (C ++ 59 :: (D ++ [59])))) := by rw [wrL, hA, hB, hC, hD]
  have st := fun h => law_written_steps (f := f) (A := A) (B := B) (C := C) (D := D) h1 h2 h3 h4 h5 h
  have s1 := fun h => (st h).1
  have s2 := fun h => (st h).2.1
  have s3 := fun h => (st h).2.2.1
  have s4 := fun h => (st h).2.2.2.1
  have s5 := fun h => (st h).2.2.2.2.1
  have s6 := fun h => (st h).2.2.2.2.2.1
  have s7 := fun h => (st h).2.2.2.2.2.2.1
  have s8 := fun h => (st h).2.2.2.2.2.2.2.1
  have s9 := fun h => (st h).2.2.2.2.2.2.2.2
  clear st
  rw [wf]
  show (match sSeq _ _ [some (eFk f k), none, none, none, none, none, none, none] h with | .nx _ h1 => _ | .rt v h1 => _ | .exc c _ h1 => _ | .bad => _) = _
  simp only [ev_sSeq, ev_sAsg, ev_sRet, n1, n2, n3, ev_gNm0, ev_gNmS, Res.thn_ok, Option.map_some, ev_eDisp, ev_aCons, ev_aNil, ev_eCall, ev_e2, ev_VarS, ev_Var0, ev_C, Res.bind_ok, i0, i1, m1, ev_eBm, ev_kdS, if_true, j1, j2, j3, s1, s2, s3, s4, s5, s6, s7, s8, s9]
  simp
end
end MM
namespace MM
open PySem L2 PySem.W
noncomputable section
theorem cutL_mid {α : Type} {x : List α} {b e : Int} (h0 : 0 ≤ b) (h1 : b ≤ e) (h2 : e ≤ x.length) : cutL x (some b) (some e) = (x.drop b.toNat).take (e - b).toNat := by
  have n1 : ¬ b < 0 := by omega
  have n2 : ¬ e < 0 := by omega
  simp only [cutL, HT.sIx, n1, n2, if_false]
  have e1 : min b.toNat x.length = b.toNat := by omega
  have e2 : min e.toNat x.length = e.toNat := by omega
  rw [e1, e2]
  congr 1
  omega
end
end MM
namespace MM
open PySem L2 PySem.W
end MM
namespace MM
open PySem L2 PySem.W
noncomputable section
section
variable {l : Loc} {h : HM}
@[simp] theorem ev_eMeth {c : Nat} {m : FM} {mo : EM} {as : AM} : eMeth c m mo as l h = (mo l h).bind fun o h1 => if isIns c o h1 = true then (as l h1).bind fun xs h2 => m (o :: xs) h2 else .bad := (rfl)
@[simp] theorem ev_eFld {c i : Nat} {mo : EM} : eFld c i mo l h = (mo l h).bind (getF c i) := (rfl)
@[simp] theorem ev_sFldM {c i : Nat} {mo mv : EM} : sFldM c i mo mv l h = (mv l h).thn l fun y h1 => (mo l h1).thn l fun o h2 => match setF c i o y h2 with
  | some h3 => .nx l h3
  | none => .bad := (rfl)
@[simp] theorem ev_sSub {mo mi mv : EM} : sSub mo mi mv l h = (mv l h).thn l fun y h1 => (mo l h1).thn l fun o h2 => (mi l h2).thn l fun i h3 => match setI o i y h3 with
  | some h4 => .nx l h4
  | none => .bad := (rfl)
@[simp] theorem ev_eMake {c : Nat} {m : FM} {as : AM} : eMake c m as l h = (as l h).bind fun xs h1 => (m (.ref h1.length :: xs) (h1 ++ [.ins c []])).bind fun v h2 => match v with
  | .non => .ok (.ref h1.length) h2
  | _ => .bad := (rfl)
@[simp] theorem ev_sRaise {c : Nat} : sRaise c l h = .exc c l h := (rfl)
@[simp] theorem ev_eDictT : eDictT l h = .ok (.ref h.length) (h ++ [.dT []]) := (rfl)
@[simp] theorem ev_eDictK : eDictK l h = .ok (.ref h.length) (h ++ [.dK []]) := (rfl)
end
def mKey (m : Mk) : List Key := [.inl m.1, .inl m.2]
section
variable {α : Type} {e : α → Val} {d : List (Mk × α)} {w : Mk} {a : α}
def kvM (e : α → Val) (d : List (Mk × α)) : List (List Key × Val) := d.map fun p => (mKey p.1, e p.2)
end
/-- how what is known stands: as it was handed in, or new -/
def kB (b : Bool) (ks : List Mk) : Val := if b = true then .ptup (ks.map eM) else .tup (ks.map eM)
def eB (p : Fl × Bool) : Val := eFk p.1 (kB p.2 p.1.known)
structure Hs where
  own : Int
  acts : Int
  shelf : List (Mk × (Fl × Bool))
def insH (n : Nat) (s : Hs) : Ob := .ins 0 [.int s.own, .int s.acts, .ref (n + 1), .ref (n + 2)]
structure HouseAt (h : HM) (n : Nat) (s : Hs) : Prop where
  ins : h[n]? = some (insH n s)
  sh : h[n + 1]? = some (.dT (kvM eB s.shelf))
def putH (h : HM) (n : Nat) (s : Hs) : HM := (h.set n (insH n s)).set (n + 1) (.dT (kvM eB s.shelf))
section
variable {h : HM} {n : Nat} {s s' : Hs} {w : Mk} {p : Fl × Bool} {j : Int}
theorem HouseAt.lt (H : HouseAt h n s) : n + 1 < h.length := (List.getElem?_eq_some_iff.mp H.sh).1
theorem putH_get {k : Nat} (h1 : k ≠ n) (h2 : k ≠ n + 1) : (putH h n s)[k]? = h[k]? := by
  unfold putH
  rw [List.getElem?_set_ne (by omega), List.getElem?_set_ne (by omega)]
theorem HouseAt.put (H : HouseAt h n s) : HouseAt (putH h n s') n s' := by
  have := H.lt
  refine ⟨?_, ?_⟩
  · unfold putH
    rw [List.getElem?_set_ne (by omega), List.getElem?_set_self (by omega)]
  · unfold putH
    rw [List.getElem?_set_self (by simp; omega)]
theorem HouseAt.keep {k : Nat} {t : Hs} (H : HouseAt h k t) (h1 : k + 1 < n ∨ n + 1 < k) : HouseAt (putH h n s) k t := ⟨by rw [putH_get (by omega) (by omega)]; exact H.ins, by rw [putH_get (by omega) (by omega)]; exact H.sh⟩
theorem nx_var {i : Nat} {l : Loc} {h : HM} : (∃ v, eVar i l h = .ok v h) ∨ eVar i l h = .bad := by
  unfold eVar
  split
  · exact .inl ⟨_, rfl⟩
  · exact .inr rfl
theorem nx_fldM {c i k : Nat} {l : Loc} {h : HM} {mv : EM} (hv : (∃ v h', mv l h = .ok v h') ∨ mv l h = .bad) : (∃ h', sFldM c i (eVar k) mv l h = .nx l h') ∨ sFldM c i (eVar k) mv l h = .bad := by
  rw [ev_sFldM]
  rcases hv with ⟨v, h', e⟩ | e
  · rw [e, Res.thn_ok]
    rcases nx_var (i := k) (l := l) (h := h') with ⟨u, e1⟩ | e1
    · rw [e1, Res.thn_ok]
      split
      · exact .inl ⟨_, rfl⟩
      · exact .inr rfl
    · rw [e1]; exact .inr rfl
  · rw [e]; exact .inr rfl
end
end
end MM
namespace MM
open PySem L2 PySem.W
noncomputable section
def m_Reader_init : FM := mF 2 (sSeq (sFldM 2 0 (eVar 0) (eVar 1))
  (sFldM 2 1 (eVar 0) (eC (.int 0))))
def m_number_of : FM := mF 2 (sSeq (sIf (tOrM (tNotM (tTru (eVar 0))) (tNotM (tTru (eBi bAll (aCons (eLc (iVal (eVar 0)) (gNm 1) (tYesM) (e2 vIn (eVar 1) (eC (.str "0123456789"))) [1] frozen) (aNil)))))) (sRaise 4) (sNil))
  (sRet (eBi bInt (aCons (eVar 0) (aNil)))))
def m_mark_of : FM := mF 2 (sSeq (sAsg (eBm .str mSplit (eVar 0) (aCons (eC (.str ".")) (aNil))) (gNm 1))
  (sSeq (sIf (tOf (e2 vNe (eBi bLen (aCons (eVar 1) (aNil))) (eC (.int 2)))) (sRaise 4) (sNil))
  (sRet (eDisp mkTup (aCons (eCall m_number_of (aCons (e2 vIx (eVar 1) (eC (.int 0))) (aNil))) (aCons (eCall m_number_of (aCons (e2 vIx (eVar 1) (eC (.int 1))) (aNil))) (aNil)))))))
def m_Reader_until : FM := mF 4 (sSeq (sAsg (eBm .str mFind (eFld 2 0 (eVar 0)) (aCons (eVar 1) (aCons (eFld 2 1 (eVar 0)) (aNil)))) (gNm 2))
  (sSeq (sIf (tOf (e2 vLt (eVar 2) (eC (.int 0)))) (sRaise 4) (sNil))
  (sSeq (sAsg (eSl (eFld 2 0 (eVar 0)) (oSome (eFld 2 1 (eVar 0))) (oSome (eVar 2))) (gNm 3))
  (sSeq (sFldM 2 1 (eVar 0) (e2 vAdd (eVar 2) (eC (.int 1))))
  (sRet (eVar 3))))))
def m_Reader_signs : FM := mF 3 (sSeq (sAsg (eSl (eFld 2 0 (eVar 0)) (oSome (eFld 2 1 (eVar 0))) (oSome (e2 vAdd (eFld 2 1 (eVar 0)) (eVar 1)))) (gNm 2))
  (sSeq (sIf (tOf (e2 vLt (eBi bLen (aCons (eVar 2) (aNil))) (eVar 1))) (sRaise 4) (sNil))
  (sSeq (sFldM 2 1 (eVar 0) (e2 vAdd (eFld 2 1 (eVar 0)) (eVar 1)))
  (sRet (eVar 2)))))
def m_texts_at_w0 : SM := sSeq (sAsg (eCall m_mark_of (aCons (eMeth 2 m_Reader_until (eVar 0) (aCons (eC (.str "=")) (aNil))) (aNil))) (gNm 2))
  (sSeq (sAsg (eCall m_number_of (aCons (eMeth 2 m_Reader_until (eVar 0) (aCons (eC (.str ":")) (aNil))) (aNil))) (gNm 3))
  (sDrop (eBm .list mAppend (eVar 1) (aCons (eDisp mkTup (aCons (eVar 2) (aCons (eMeth 2 m_Reader_signs (eVar 0) (aCons (eVar 3) (aNil))) (aNil)))) (aNil)))))
def m_texts_at : FM := mF 4 (sSeq (sAsg (eDisp mkRef (aNil)) (gNm 1))
  (sSeq (whL (tOf (e2 vNe (eSl (eFld 2 0 (eVar 0)) (oSome (eFld 2 1 (eVar 0))) (oSome (e2 vAdd (eFld 2 1 (eVar 0)) (eC (.int 1))))) (eC (.str ";")))) m_texts_at_w0 100000)
  (sSeq (sFldM 2 1 (eVar 0) (e2 vAdd (eFld 2 1 (eVar 0)) (eC (.int 1))))
  (sRet (eVar 1)))))
def m_named : FM := mF 2 (sSeq (sAsg (eBm .str mSplit (eVar 0) (aCons (eC (.str "=")) (aNil))) (gNm 1))
  (sSeq (sIf (tOf (e2 vNe (eBi bLen (aCons (eVar 1) (aNil))) (eC (.int 2)))) (sRaise 4) (sNil))
  (sRet (eDisp mkTup (aCons (eCall m_mark_of (aCons (e2 vIx (eVar 1) (eC (.int 0))) (aNil))) (aCons (e2 vIx (eVar 1) (eC (.int 1))) (aNil)))))))
def m_listed : FM := mF 1 (sSeq (sIf (tOf (e2 vEq (eVar 0) (eC (.str "")))) (sRet (eDisp mkLst (aNil))) (sNil))
  (sRet (eBm .str mSplit (eVar 0) (aCons (eC (.str ",")) (aNil)))))
def cutC (c : Nat) : List Nat → Option (List Nat × List Nat)
  | [] => none
  | a :: r => if a = c then some ([], r) else (cutC c r).map fun p => (a :: p.1, p.2)
theorem cutC_some {c : Nat} : ∀ {l a b : List Nat}, cutC c l = some (a, b) → l = a ++ c :: b ∧ c ∉ a
  | [], _, _, e => by cases e
  | x :: r, a, b, e => by
    unfold cutC at e
    by_cases h : x = c
    · rw [if_pos h] at e
      simp only [Option.some.injEq, Prod.mk.injEq] at e
      obtain ⟨rfl, rfl⟩ := e
      exact ⟨by simp [h], by simp⟩
    · rw [if_neg h] at e
      simp only [Option.map_eq_some_iff] at e
      obtain ⟨⟨a', b'⟩, e1, e2⟩ := e
      simp only [Prod.mk.injEq] at e2
      obtain ⟨rfl, rfl⟩ := e2
      obtain ⟨h1, h2⟩ := cutC_some e1
      exact ⟨by rw [h1]; simp, by simp only [List.mem_cons, not_or]; exact ⟨fun z => h z.symm, h2⟩⟩
theorem cutC_none {c : Nat} : ∀ {l : List Nat}, cutC c l = none → c ∉ l
  | [], _ => by simp
  | x :: r, e => by
    unfold cutC at e
    by_cases h : x = c
    · rw [if_pos h] at e; cases e
    · rw [if_neg h] at e
      simp only [Option.map_eq_none_iff] at e
      simp only [List.mem_cons, not_or]
      exact ⟨fun z => h z.symm, cutC_none e⟩
theorem cutC_app {c : Nat} {b : List Nat} : ∀ {a : List Nat}, c ∉ a → cutC c (a ++ c :: b) = some (a, b)
  | [], _ => by simp [cutC]
  | x :: a, h => by
    simp only [List.mem_cons, not_or] at h
    rw [List.cons_append, cutC, if_neg (fun z => h.1 z.symm), cutC_app h.2]
    rfl
section
open StrLaws Builtin Builtin.Str
theorem occ_stay (s sub : Str) (hi : Nat) : ∀ (l : List Nat) (a f : Nat), (forIn l ((#[a] : Array Nat), f) (occBody s sub hi 1)).run.fst = #[a]
  | [], _, _ => rfl
  | b :: l, a, f => by
    rw [List.forIn_cons]
    unfold occBody
    rw [if_neg (by simp)]
    exact occ_stay s sub hi l a f
theorem occ_first (s sub : Str) (hi : Nat) : ∀ (l : List Nat) (free : Nat), (∀ i ∈ l, free ≤ i) →
    (forIn l ((#[] : Array Nat), free) (occBody s sub hi 1)).run.fst = match l.find? (fun i => decide (i + sub.length ≤ hi) && subAt s sub i) with
      | some i => #[i]
      | none => #[]
  | [], free, _ => rfl
  | a :: l, free, hf => by
    rw [List.forIn_cons, List.find?_cons]
    unfold occBody
    have ha : free ≤ a := hf a (List.mem_cons_self ..)
    by_cases hc : a + sub.length ≤ hi ∧ subAt s sub a = true
    · rw [if_pos ⟨⟨⟨by simp, ha⟩, hc.1⟩, hc.2⟩]
      have : (decide (a + sub.length ≤ hi) && subAt s sub a) = true := by simp [hc.1, hc.2]
      rw [this]
      exact occ_stay s sub hi l a _
    · have c2 : ¬ (((((#[] : Array Nat), free).fst.size < 1 ∧ ((#[] : Array Nat), free).snd ≤ a) ∧ a + sub.length ≤ hi) ∧ subAt s sub a = true) := fun h => hc ⟨h.1.2, h.2⟩
      have c3 : (decide (a + sub.length ≤ hi) && subAt s sub a) = false := by
        rw [Bool.eq_false_iff]
        intro h
        simp only [Bool.and_eq_true, decide_eq_true_eq] at h
        exact hc h
      rw [if_neg c2, c3]
      exact occ_first s sub hi l free fun i hi' => hf i (List.mem_cons_of_mem _ hi')
end
theorem find_range (P : Nat → Bool) (p m : Nat) : ∀ n, (∀ i, i < m → P (p + i) = false) → m < n → P (p + m) = true → (List.range' p n).find? P = some (p + m) := by
  induction m generalizing p with
  | zero =>
    intro n _ hn hp
    obtain ⟨n, rfl⟩ : ∃ k, n = k + 1 := ⟨n - 1, by omega⟩
    rw [List.range'_succ, List.find?_cons, show P p = true from hp]
    rfl
  | succ m ih =>
    intro n h0 hn hp
    obtain ⟨n, rfl⟩ : ∃ k, n = k + 1 := ⟨n - 1, by omega⟩
    have := h0 0 (by omega)
    rw [List.range'_succ, List.find?_cons, show P p = false from this]
    have e := ih (p + 1) n (fun i hi => by have := h0 (i + 1) (by omega); rwa [show p + (i + 1) = p + 1 + i by omega] at this) (by omega) (by rw [show p + 1 + m = p + (m + 1) by omega]; exact hp)
    rw [show p + (m + 1) = p + 1 + m by omega]
    exact e
theorem find_at {x : List Nat} {c p : Nat} (hp : p ≤ x.length) : Txt.find3 (sg x) (sg [c]) (p : Nat) = match cutC c (x.drop p) with
    | some (a, _) => ((p + a.length : Nat) : Int)
    | none => -1 := by
  have hP : ∀ i, (decide (i + (sg [c]).length ≤ (sg x).length) && Builtin.Str.subAt (sg x) (sg [c]) i) = decide (x[i]? = some c) := by
    intro i
    have := StrLaws.subAt_one (sg x) c i
    rw [sg_list] at this
    rw [Bool.eq_iff_iff, Bool.and_eq_true, decide_eq_true_eq, decide_eq_true_eq]
    exact this
  have e0 : PySem.fromIndex (sg x).length (p : Nat) = p := by
    unfold PySem.fromIndex
    rw [if_neg (by omega)]
    omega
  unfold Txt.find3
  rw [e0, StrLaws.occ_eq, occ_first _ _ _ _ _ (fun i hi => by simp [List.mem_range'] at hi; omega)]
  simp only [hP]
  cases e : cutC c (x.drop p) with
  | none =>
    have hn := cutC_none e
    have : (List.range' p ((sg x).length + 1 - p)).find? (fun i => decide (x[i]? = some c)) = none := by
      rw [List.find?_eq_none]
      intro i hi
      simp only [decide_eq_true_eq]
      intro h
      refine hn ?_
      have hi2 : p ≤ i := by simp [List.mem_range'] at hi; omega
      refine List.mem_of_getElem? (i := i - p) ?_
      rw [List.getElem?_drop, show p + (i - p) = i by omega]
      exact h
    rw [this]
  | some q =>
    obtain ⟨a, b⟩ := q
    obtain ⟨h1, h2⟩ := cutC_some e
    have hg : ∀ i, x[p + i]? = (a ++ c :: b)[i]? := fun i => by rw [← h1, List.getElem?_drop]
    have hl : x.length = p + (a.length + (b.length + 1)) := by
      have := congrArg List.length h1
      simp at this
      omega
    have : (List.range' p ((sg x).length + 1 - p)).find? (fun i => decide (x[i]? = some c)) = some (p + a.length) := by
      refine find_range _ _ _ _ (fun i hi => ?_) (by rw [sg_len]; omega) ?_
      · simp only [hg]
        rw [List.getElem?_append_left hi]
        simp only [decide_eq_false_iff_not]
        exact fun z => h2 (List.mem_of_getElem? z)
      · simp only [hg]
        rw [List.getElem?_append_right (Nat.le_refl _)]
        simp
    rw [this]
def Rdr (x : List Nat) (p : Nat) : Ob := .ins 2 [.str (sg x), .int (p : Nat)]
section
variable {H : HM} {n p : Nat} {x : List Nat} (hn : H[n]? = some (Rdr x p))
include hn
theorem rd_ins : isIns 2 (.ref n) H = true := by simp [isIns, hn, Rdr]
theorem rd_text : getF 2 0 (.ref n) H = .ok (.str (sg x)) H := by simp [getF, hn, Rdr]
theorem rd_place : getF 2 1 (.ref n) H = .ok (.int (p : Nat)) H := by simp [getF, hn, Rdr]
theorem rd_set {q : Nat} : setF 2 1 (.ref n) (.int (q : Nat)) H = some (H.set n (Rdr x q)) := by simp [setF, hn, Rdr]
theorem at_until {c : Nat} (hp : p ≤ x.length) (hx : x.length ≤ 16000000) : m_Reader_until [.ref n, .str (sg [c])] H = match cutC c (x.drop p) with
    | some (a, _) => .ok (.str (sg a)) (H.set n (Rdr x (p + a.length + 1)))
    | none => .exc 4 H := by
  have ff : mFind (.str (sg x)) [.str (sg [c]), .int (p : Nat)] H = .ok (.int (Txt.find3 (sg x) (sg [c]) (p : Nat))) H := rfl
  have fa := find_at (c := c) hp
  unfold m_Reader_until mF
  show (match sSeq _ _ [some (.ref n), some (.str (sg [c])), none, none] H with | .nx _ h1 => _ | .rt v h1 => _ | .exc c _ h1 => _ | .bad => _) = _
  simp only [ev_sSeq, ev_sAsg, ev_eBm, ev_eFld, ev_Var0, ev_VarS, Res.bind_ok, rd_text hn, rd_place hn, ev_kdS, if_true, ev_aCons, ev_aNil, ff, Res.thn_ok, ev_gNm0, ev_gNmS, Option.map_some, ev_sIf, ev_tOf, ev_e2, ev_C, ev_ltI, ev_toB]
  cases e : cutC c (x.drop p) with
  | none =>
    rw [e] at fa
    simp only at fa
    rw [fa]
    simp
  | some q =>
    obtain ⟨a, b⟩ := q
    rw [e] at fa
    simp only at fa
    rw [fa]
    obtain ⟨h1, h2⟩ := cutC_some e
    have hl : x.length = p + (a.length + (b.length + 1)) := by
      have := congrArg List.length h1
      simp at this
      omega
    have sl : vSl (.str (sg x)) (some (p : Nat)) (some ((p + a.length : Nat) : Int)) H = .ok (.str (sg a)) H := by
      rw [sl_sg (by omega), cutL_mid (by omega) (by omega) (by omega)]
      have : (((p + a.length : Nat) : Int) - (p : Nat)).toNat = a.length := by omega
      rw [this, Int.toNat_natCast, h1]
      simp
    have cst : ((p + a.length : Nat) : Int) + 1 = ((p + a.length + 1 : Nat) : Int) := by omega
    have nl : ¬ ((p + a.length : Nat) : Int) < 0 := by omega
    simp only [nl, decide_false, Bool.false_eq_true, if_false, ev_sNil, Res.thn_ok, ev_eSl, ev_eFld, ev_Var0, ev_VarS, Res.bind_ok, rd_text hn, rd_place hn, ev_oSome, sl, ev_gNm0, ev_gNmS, Option.map_some, ev_sFldM, ev_e2, ev_C, ev_addI, cst, rd_set hn, ev_sSeq, ev_sAsg, ev_sRet]
theorem at_signs {k : Nat} (hp : p ≤ x.length) (hx : x.length ≤ 16000000) : m_Reader_signs [.ref n, .int (k : Nat)] H = if (x.drop p).length < k then .exc 4 H else .ok (.str (sg ((x.drop p).take k))) (H.set n (Rdr x (p + k))) := by
  have sl : vSl (.str (sg x)) (some (p : Nat)) (some (((p : Nat) : Int) + (k : Nat))) H = .ok (.str (sg ((x.drop p).take k))) H := by
    rw [sl_sg (by omega)]
    have n1 : ¬ ((p : Nat) : Int) < 0 := by omega
    have n2 : ¬ ((p : Nat) : Int) + (k : Nat) < 0 := by omega
    unfold cutL HT.sIx
    simp only [n1, n2, if_false]
    have e1 : min ((p : Nat) : Int).toNat x.length = p := by omega
    have e2 : (((p : Nat) : Int) + (k : Nat)).toNat = p + k := by omega
    rw [e1, e2]
    congr 3
    rw [Nat.min_def]
    split
    · congr 1; omega
    · rw [List.take_of_length_le (by simp), List.take_of_length_le (by simp; omega)]
  have ln : bLen [.str (sg ((x.drop p).take k))] H = .ok (.int (((x.drop p).take k).length : Nat)) H := lenSg (by simp; omega)
  have cst : ((p : Nat) : Int) + (k : Nat) = ((p + k : Nat) : Int) := by omega
  unfold m_Reader_signs mF
  show (match sSeq _ _ [some (.ref n), some (.int (k : Nat)), none] H with | .nx _ h1 => _ | .rt v h1 => _ | .exc c _ h1 => _ | .bad => _) = _
  rw [cst] at sl
  have cst' : ∀ h, vAdd (.int ((p : Nat) : Int)) (.int (k : Nat)) h = .ok (.int ((p + k : Nat) : Int)) h := fun h => by rw [ev_addI, cst]
  simp only [ev_sSeq, ev_sAsg, ev_eSl, ev_oSome, ev_e2, ev_eFld, ev_Var0, ev_VarS, Res.bind_ok, rd_text hn, rd_place hn, cst', sl, Res.thn_ok, ev_gNm0, ev_gNmS, Option.map_some, ev_sIf, ev_tOf, ev_eBi, ev_aCons, ev_aNil, ln, ev_ltI, ev_toB, ev_sRaise, ev_sNil, ev_sFldM, rd_set hn, ev_sRet]
  by_cases hk : (x.drop p).length < k
  · have : (((x.drop p).take k).length : Int) < (k : Nat) := by rw [List.length_take]; omega
    rw [if_pos hk]
    simp only [this, decide_true, if_true]
  · have : ¬ (((x.drop p).take k).length : Int) < (k : Nat) := by rw [List.length_take]; omega
    rw [if_neg hk]
    simp only [this, decide_false, Bool.false_eq_true, if_false, ev_e2, ev_eFld, ev_Var0, ev_VarS, Res.bind_ok, Res.thn_ok, rd_place hn, cst', rd_set hn]
end
/-- none: not told; some none: no writing -/
abbrev PR (α : Type) := Option (Option α)
def pb {α β : Type} (x : PR α) (f : α → PR β) : PR β := match x with
  | none => none
  | some none => some none
  | some (some a) => f a
@[simp] theorem pb_bad {α β : Type} (f : α → PR β) : pb none f = none := (rfl)
@[simp] theorem pb_no {α β : Type} (f : α → PR β) : pb (some none) f = some none := (rfl)
@[simp] theorem pb_ok {α β : Type} (a : α) (f : α → PR β) : pb (some (some a)) f = f a := (rfl)
def toX {α : Type} (e : α → Val) (H : HM) : Option α → Res Val
  | none => .exc 4 H
  | some a => .ok (e a) H
@[simp] theorem toX_no {α : Type} (e : α → Val) (H : HM) : toX e H none = .exc 4 H := (rfl)
@[simp] theorem toX_ok {α : Type} (e : α → Val) (H : HM) (a : α) : toX e H (some a) = .ok (e a) H := (rfl)
def figs : List Nat := [48, 49, 50, 51, 52, 53, 54, 55, 56, 57]
theorem figs_eq : Str.ofString "0123456789" = sg figs := by decide +kernel
theorem mem_figs {c : Nat} : c ∈ figs ↔ 48 ≤ c ∧ c ≤ 57 := by
  simp only [figs, List.mem_cons, List.not_mem_nil, or_false]
  omega
def isNum (l : List Nat) : Bool := !l.isEmpty && l.all fun c => decide (c ∈ figs)
def numR (l : List Nat) : PR Nat := if isNum l = true then (if l.length ≤ 570 then some (some (NumText.digitsVal l)) else none) else some none
theorem at_numberOf {l : List Nat} {r : Option Nat} {H : HM} (hl : l.length ≤ 1000000) (hr : numR l = some r) : m_number_of [.str (sg l)] H = toX (fun n => .int (n : Nat)) H r := by
  have tr : truV (.str (sg l)) H = .ok (!l.isEmpty) H := by
    unfold truV
    dsimp only
    rw [if_pos (by rw [sg_len, sizeLine_eq]; omega), sg_len]
    cases l with
    | nil => rfl
    | cons a l => simp; omega
  have lc : lcL (srcItems (signs (sg l))) (gNm 1) tYesM (e2 vIn (eVar 1) (eC (.str (sg figs)))) [some (.str (sg l)), none] (srcItems (signs (sg l))).len 0 H [] = .ok (l.map fun c => .bl (decide (c ∈ figs))) H := by
    rw [signs_map, lc_mapM (e := fun c => .str (sg [c])) (fun c => .bl (decide (c ∈ figs))) (fun c hc => ⟨_, rfl, ?_⟩) (by rw [sizeLine_eq]; omega)]
    show (e2 vIn (eVar 1) (eC (.str (sg figs)))) [some (.str (sg l)), some (.str (sg [c]))] H = _
    simp
  have al : bAll [.lst (l.map fun c => .bl (decide (c ∈ figs)))] H = .ok (.bl (l.all fun c => decide (c ∈ figs))) H := all_ok
  have so : srcOf (.str (sg l)) H = .ok (srcItems (signs (sg l))) H := rfl
  have tb : ∀ b, truV (.bl b) H = .ok b H := fun b => rfl
  unfold m_number_of mF
  rw [figs_eq]
  show (match sSeq _ _ [some (.str (sg l)), none] H with | .nx _ h1 => _ | .rt v h1 => _ | .exc c _ h1 => _ | .bad => _) = _
  have wl : wipeL [some (Val.str (sg l)), none] [1] = [some (Val.str (sg l)), none] := rfl
  simp only [ev_sSeq, ev_sIf, ev_tOr, ev_tNot, ev_tTru, ev_Var0, Res.bind_ok, tr, ev_eBi, ev_aCons, ev_aNil, ev_eLc, ev_iVal, so, wl, lc, ev_frozen, al, tb]
  unfold numR isNum at hr
  cases l with
  | nil =>
    simp at hr
    subst hr
    simp
  | cons a l =>
    simp only [List.isEmpty_cons, Bool.not_false, Bool.true_and] at hr
    by_cases hA : ((a :: l).all fun c => decide (c ∈ figs)) = true
    · rw [if_pos hA] at hr
      split at hr
      · rename_i hz
        cases hr
        have hd : ((a :: l).all fun c => decide (48 ≤ c) && decide (c ≤ 57)) = true := by
          rw [List.all_eq_true] at hA ⊢
          intro c hc
          have := mem_figs.mp (of_decide_eq_true (hA c hc))
          simp [this]
        have bi : bInt [.str (sg (a :: l))] H = .ok (.int ((NumText.digitsVal (a :: l) : Nat) : Int)) H := by
          have := SX.int_S hd (by simp) (by omega)
          unfold bInt
          dsimp only
          rw [show PySem.intText? (sg (a :: l)) = _ from this]
          dsimp only
          rw [if_pos (by rw [sg_len]; omega)]
        simp only [List.isEmpty_cons, Bool.not_false, Bool.not_true, Bool.false_eq_true, if_false, Res.bind_ok, hA, Res.thn_ok, ev_sNil, ev_sRet, ev_eBi, ev_aCons, ev_aNil, ev_Var0, bi, toX_ok]
      · cases hr
    · rw [if_neg hA] at hr
      cases hr
      have hA' : ((a :: l).all fun c => decide (c ∈ figs)) = false := by simpa using hA
      simp only [List.isEmpty_cons, Bool.not_false, Bool.not_true, Bool.false_eq_true, if_false, if_true, Res.bind_ok, hA', Res.thn_ok, ev_sRaise, toX_no]
end
end MM
namespace MM
open PySem L2 PySem.W
noncomputable section
abbrev cutAll (c : Nat) (l : List Nat) : List (List Nat) := TL.spl [c] 0 [] l
theorem spl_len {S : List Nat} : ∀ (l : List Nat) (k : Nat) (acc : List Nat), ∀ p ∈ TL.spl S k acc l, p.length ≤ acc.length + l.length ∧ ∀ c ∈ p, c ∈ acc ∨ c ∈ l
  | [], k, acc, p, h => by
    rw [TL.spl_nil] at h
    simp only [List.mem_singleton] at h
    subst h
    exact ⟨by simp, fun c hc => .inl hc⟩
  | c :: r, 0, acc, p, h => by
    by_cases e : TL.pre S (c :: r) = true
    · rw [TL.spl_hit e] at h
      rcases List.mem_cons.mp h with rfl | h
      · exact ⟨by simp, fun c hc => .inl hc⟩
      · obtain ⟨h1, h2⟩ := spl_len r _ _ p h
        refine ⟨by simp at h1 ⊢; omega, fun d hd => ?_⟩
        rcases h2 d hd with z | z
        · cases z
        · exact .inr (by simp [z])
    · have e' : TL.pre S (c :: r) = false := by simpa using e
      rw [TL.spl_miss e'] at h
      obtain ⟨h1, h2⟩ := spl_len r _ _ p h
      refine ⟨by simp at h1 ⊢; omega, fun d hd => ?_⟩
      rcases h2 d hd with z | z
      · simp only [List.mem_append, List.mem_singleton] at z
        rcases z with z | rfl
        · exact .inl z
        · exact .inr (by simp)
      · exact .inr (by simp [z])
  | c :: r, k + 1, acc, p, h => by
    have h : p ∈ TL.spl S k acc r := h
    obtain ⟨h1, h2⟩ := spl_len r _ _ p h
    refine ⟨by simp at h1 ⊢; omega, fun d hd => ?_⟩
    rcases h2 d hd with z | z
    · exact .inl z
    · exact .inr (by simp [z])
theorem cutAll_len {c : Nat} {l p : List Nat} (h : p ∈ cutAll c l) : p.length ≤ l.length := by have := (spl_len l 0 [] p h).1; simpa using this
theorem cutAll_mem {c : Nat} {l p : List Nat} (h : p ∈ cutAll c l) : ∀ x ∈ p, x ∈ l := fun x hx => by
  rcases (spl_len l 0 [] p h).2 x hx with z | z
  · cases z
  · exact z
theorem spl_num {S : List Nat} : ∀ (l : List Nat) (k : Nat) (acc : List Nat), (TL.spl S k acc l).length ≤ l.length + 1
  | [], k, acc => by rw [TL.spl_nil]; simp
  | c :: r, 0, acc => by
    by_cases e : TL.pre S (c :: r) = true
    · rw [TL.spl_hit e]; have := spl_num (S := S) r (S.length - 1) []; simp; omega
    · rw [TL.spl_miss (by simpa using e)]; have := spl_num (S := S) r 0 (acc ++ [c]); simp; omega
  | c :: r, k + 1, acc => by
    show (TL.spl S k acc r).length ≤ _
    have := spl_num (S := S) r k acc
    simp; omega
theorem split_at {l : List Nat} {c : Nat} {H : HM} (hl : l.length ≤ 1000000) (hc : c < 256) : mSplit (.str (sg l)) [.str (sg [c])] H = .ok (.lst ((cutAll c l).map fun x => .str (sg x))) H := by
  have e : Txt.split (sg l) (sg [c]) = (cutAll c l).map sg := SX.split_S (by simp) (by simp [hc])
  unfold mSplit
  dsimp only
  rw [if_pos ⟨by rw [sg_len]; rfl, by rw [sg_len, sizeLine_eq]; omega⟩, e, List.map_map]
  rfl
def markR (l : List Nat) : PR Mk := match cutAll 46 l with
  | [a, b] => pb (numR a) fun x => pb (numR b) fun y => some (some ((x : Int), (y : Int)))
  | _ => some none
theorem ixL0 {x : Val} {xs : List Val} {h : HM} : vIx (.lst (x :: xs)) (.int 0) h = .ok x h := by
  have := ix0 (x := x) (xs := xs) (h := h)
  simpa only [vIx] using this
theorem ixL1 {x y : Val} {xs : List Val} {h : HM} : vIx (.lst (x :: y :: xs)) (.int 1) h = .ok y h := by
  have := ix1 (x := x) (y := y) (xs := xs) (h := h)
  simpa only [vIx] using this
theorem at_markOf {l : List Nat} {r : Option Mk} {H : HM} (hl : l.length ≤ 1000000) (hr : markR l = some r) : m_mark_of [.str (sg l)] H = toX eM H r := by
  have sp : ∀ h, mSplit (.str (sg l)) [.str (sg [46])] h = .ok (.lst ((cutAll 46 l).map fun x => .str (sg x))) h := fun h => split_at hl (by decide)
  unfold m_mark_of mF
  rw [dot_eq]
  show (match sSeq _ _ [some (.str (sg l)), none] H with | .nx _ h1 => _ | .rt v h1 => _ | .exc c _ h1 => _ | .bad => _) = _
  simp only [ev_sSeq, ev_sAsg, ev_eBm, ev_Var0, ev_C, Res.bind_ok, ev_kdS, if_true, ev_aCons, ev_aNil, sp, Res.thn_ok, ev_gNm0, ev_gNmS, Option.map_some, ev_sIf, ev_tOf, ev_e2, ev_eBi, ev_VarS, ev_lenL, ev_neI, ev_toB, List.length_map]
  unfold markR at hr
  split at hr
  · rename_i a b e
    have ha := cutAll_len (c := 46) (l := l) (p := a) (by rw [e]; simp)
    have hb := cutAll_len (c := 46) (l := l) (p := b) (by rw [e]; simp)
    rw [e]
    have n2 : ((([a, b] : List (List Nat)).length : Nat) : Int) = 2 := rfl
    simp only [n2, decide_true, Bool.not_true, Bool.false_eq_true, if_false, ev_sNil, Res.thn_ok, ev_sRet, ev_eDisp, ev_aCons, ev_aNil, ev_eCall, ev_e2, ev_VarS, ev_Var0, ev_C, Res.bind_ok, List.map_cons, List.map_nil, ixL0, ixL1]
    cases e1 : numR a with
    | none => rw [e1] at hr; cases hr
    | some o1 =>
      rw [at_numberOf (by omega) e1]
      cases o1 with
      | none => rw [e1] at hr; cases hr; rfl
      | some x =>
        rw [e1] at hr
        simp only [pb_ok] at hr
        simp only [toX_ok, Res.bind_ok]
        cases e2 : numR b with
        | none => rw [e2] at hr; cases hr
        | some o2 =>
          rw [at_numberOf (by omega) e2]
          cases o2 with
          | none => rw [e2] at hr; cases hr; rfl
          | some y =>
            rw [e2] at hr
            simp only [pb_ok, Option.some.injEq] at hr
            subst hr
            simp only [toX_ok, Res.bind_ok, ev_mkTup (xs := [Val.int (x : Nat), .int (y : Nat)]) (by simp), Res.thn_ok]
            rfl
  · rename_i hne
    cases hr
    have : ¬ (((cutAll 46 l).length : Nat) : Int) = 2 := by
      intro z
      match h : cutAll 46 l, z with
      | [a, b], _ => exact hne a b h
      | [], z => simp at z
      | [a], z => simp at z
      | a :: b :: c :: d, z => simp at z; omega
    simp only [this, decide_false, Bool.not_false, if_true, ev_sRaise, toX_no]
def listL (l : List Nat) : List (List Nat) := if l = [] then [] else cutAll 44 l
theorem listL_len {l : List Nat} : (listL l).length ≤ l.length + 1 := by
  unfold listL
  split
  · simp
  · exact spl_num l 0 []
theorem listL_mem {l p : List Nat} (h : p ∈ listL l) : p.length ≤ l.length ∧ ∀ c ∈ p, c ∈ l := by
  unfold listL at h
  split at h
  · cases h
  · exact ⟨cutAll_len h, cutAll_mem h⟩
theorem at_listed {l : List Nat} {H : HM} (hl : l.length ≤ 1000000) (ho : PyData.strOk (sg l) = true) : m_listed [.str (sg l)] H = .ok (.lst ((listL l).map fun x => .str (sg x))) H := by
  have sp : ∀ h, mSplit (.str (sg l)) [.str (sg [44])] h = .ok (.lst ((cutAll 44 l).map fun x => .str (sg x))) h := fun h => split_at hl (by decide)
  have eq0 : ∀ h, vEq (.str (sg l)) (.str (sg [])) h = .ok (.bl (decide (l = []))) h := fun h => by rw [eqS ho (by decide +kernel)]; simp
  unfold m_listed mF
  rw [eq44, none_eq]
  show (match sSeq _ _ [some (.str (sg l))] H with | .nx _ h1 => _ | .rt v h1 => _ | .exc c _ h1 => _ | .bad => _) = _
  simp only [ev_sSeq, ev_sIf, ev_tOf, ev_e2, ev_Var0, ev_C, Res.bind_ok, eq0, ev_toB, Res.thn_ok, ev_sRet, ev_eDisp, ev_aNil, ev_mkLst (xs := []) (by simp), ev_sNil, ev_eBm, ev_kdS, if_true, ev_aCons, sp]
  unfold listL
  by_cases h : l = []
  · simp [h]
  · simp only [h, decide_false, Bool.false_eq_true, if_false, Res.thn_ok, ev_Var0, Res.bind_ok, ev_kdS, if_true, sp]
def nameR (l : List Nat) : PR Wd := match cutAll 61 l with
  | [a, b] => pb (markR a) fun m => some (some (m, sg b))
  | _ => some none
theorem at_named {l : List Nat} {r : Option Wd} {H : HM} (hl : l.length ≤ 1000000) (hr : nameR l = some r) : m_named [.str (sg l)] H = toX eW H r := by
  have sp : ∀ h, mSplit (.str (sg l)) [.str (sg [61])] h = .ok (.lst ((cutAll 61 l).map fun x => .str (sg x))) h := fun h => split_at hl (by decide)
  unfold m_named mF
  rw [eq61]
  show (match sSeq _ _ [some (.str (sg l)), none] H with | .nx _ h1 => _ | .rt v h1 => _ | .exc c _ h1 => _ | .bad => _) = _
  simp only [ev_sSeq, ev_sAsg, ev_eBm, ev_Var0, ev_C, Res.bind_ok, ev_kdS, if_true, ev_aCons, ev_aNil, sp, Res.thn_ok, ev_gNm0, ev_gNmS, Option.map_some, ev_sIf, ev_tOf, ev_e2, ev_eBi, ev_VarS, ev_lenL, ev_neI, ev_toB, List.length_map]
  unfold nameR at hr
  split at hr
  · rename_i a b e
    have ha := cutAll_len (c := 61) (l := l) (p := a) (by rw [e]; simp)
    rw [e]
    have n2 : ((([a, b] : List (List Nat)).length : Nat) : Int) = 2 := rfl
    simp only [n2, decide_true, Bool.not_true, Bool.false_eq_true, if_false, ev_sNil, Res.thn_ok, ev_sRet, ev_eDisp, ev_aCons, ev_aNil, ev_eCall, ev_e2, ev_VarS, ev_Var0, ev_C, Res.bind_ok, List.map_cons, List.map_nil, ixL0, ixL1]
    cases e1 : markR a with
    | none => rw [e1] at hr; cases hr
    | some o1 =>
      rw [at_markOf (by omega) e1]
      cases o1 with
      | none => rw [e1] at hr; cases hr; rfl
      | some x =>
        rw [e1] at hr
        simp only [pb_ok, Option.some.injEq] at hr
        subst hr
        simp only [toX_ok, Res.bind_ok, ev_mkTup (xs := [eM x, .str (sg b)]) (by simp), Res.thn_ok]
        rfl
  · rename_i hne
    cases hr
    have : ¬ (((cutAll 61 l).length : Nat) : Int) = 2 := by
      intro z
      match h : cutAll 61 l, z with
      | [a, b], _ => exact hne a b h
      | [], z => simp at z
      | [a], z => simp at z
      | a :: b :: c :: d, z => simp at z; omega
    simp only [this, decide_false, Bool.not_false, if_true, ev_sRaise, toX_no]
/-- a list of parts, each one right; a wrong one isn't told of -/
def mapR {α β : Type} (f : α → PR β) : List α → Option (List β)
  | [] => some []
  | x :: xs => match f x, mapR f xs with
    | some (some y), some ys => some (y :: ys)
    | _, _ => none
theorem mapR_len {α β : Type} {f : α → PR β} : ∀ {xs : List α} {ys : List β}, mapR f xs = some ys → ys.length = xs.length
  | [], _, e => by cases e; rfl
  | x :: xs, ys, e => by
    unfold mapR at e
    split at e
    · rename_i y ys' e1 e2
      cases e
      simp [mapR_len e2]
    · cases e
def textsR : Nat → List Nat → PR (List Wd × List Nat)
  | 0, _ => none
  | n + 1, l => if l.take 1 = [59] then some (some ([], l.drop 1)) else match cutC 61 l with
    | none => some none
    | some (a, b) => pb (markR a) fun m => match cutC 58 b with
      | none => some none
      | some (c, d) => pb (numR c) fun k => if d.length < k then some none else pb (textsR n (d.drop k)) fun q => some (some ((m, sg (d.take k)) :: q.1, q.2))
theorem drop_cut {x a b : List Nat} {p c : Nat} (e : cutC c (x.drop p) = some (a, b)) (hp : p ≤ x.length) : x.drop (p + a.length + 1) = b ∧ p + a.length + 1 ≤ x.length ∧ a.length ≤ x.length ∧ b.length ≤ x.length := by
  obtain ⟨h1, h2⟩ := cutC_some e
  have hl : x.length = p + (a.length + (b.length + 1)) := by
    have := congrArg List.length h1
    simp at this
    omega
  refine ⟨?_, by omega, by omega, by omega⟩
  have : x.drop (p + a.length + 1) = (x.drop p).drop (a.length + 1) := by rw [List.drop_drop]; congr 1
  rw [this, h1]
  simp
end
end MM
namespace MM
open PySem L2 PySem.W
noncomputable section
section
variable {h : HM} {g : List Ob} {x : List Nat} {p : Nat}
theorem rdr_at : (h ++ Rdr x p :: g)[h.length]? = some (Rdr x p) := by simp
theorem rdr_set {o : Ob} : (h ++ Rdr x p :: g).set h.length o = h ++ o :: g := by simp
theorem rdr_ins : isIns 2 (.ref h.length) (h ++ Rdr x p :: g) = true := rd_ins rdr_at
theorem until_g {c : Nat} (hp : p ≤ x.length) (hx : x.length ≤ 16000000) : m_Reader_until [.ref h.length, .str (sg [c])] (h ++ Rdr x p :: g) = match cutC c (x.drop p) with
    | some (a, _) => .ok (.str (sg a)) (h ++ Rdr x (p + a.length + 1) :: g)
    | none => .exc 4 (h ++ Rdr x p :: g) := by
  rw [at_until rdr_at hp hx]
  cases cutC c (x.drop p) with
  | none => rfl
  | some q => simp only [rdr_set]
theorem signs_g {k : Nat} (hp : p ≤ x.length) (hx : x.length ≤ 16000000) : m_Reader_signs [.ref h.length, .int (k : Nat)] (h ++ Rdr x p :: g) = if (x.drop p).length < k then .exc 4 (h ++ Rdr x p :: g) else .ok (.str (sg ((x.drop p).take k))) (h ++ Rdr x (p + k) :: g) := by
  rw [at_signs rdr_at hp hx, rdr_set]
theorem place_g : getF 2 1 (.ref h.length) (h ++ Rdr x p :: g) = .ok (.int (p : Nat)) (h ++ Rdr x p :: g) := rd_place rdr_at
theorem text_g : getF 2 0 (.ref h.length) (h ++ Rdr x p :: g) = .ok (.str (sg x)) (h ++ Rdr x p :: g) := rd_text rdr_at
theorem setp_g {q : Nat} : setF 2 1 (.ref h.length) (.int (q : Nat)) (h ++ Rdr x p :: g) = some (h ++ Rdr x q :: g) := by rw [rd_set rdr_at, rdr_set]
end
theorem neSg {a b : List Nat} {h : HM} (ha : ∀ c ∈ a, c < 1114112) (hb : ∀ c ∈ b, c < 1114112) : vNe (.str (sg a)) (.str (sg b)) h = .ok (.bl (!decide (a = b))) h := by
  have := neE (α := Str) (a := sg a) (b := sg b) (h := h) (strOk_sg ha) (strOk_sg hb)
  rw [show vNe (.str (sg a)) (.str (sg b)) h = _ from this]
  simp
/-- the loop over the texts -/
def txT : TM := tOf (e2 vNe (eSl (eFld 2 0 (eVar 0)) (oSome (eFld 2 1 (eVar 0))) (oSome (e2 vAdd (eFld 2 1 (eVar 0)) (eC (.int 1))))) (eC (.str (sg [59]))))
theorem tx_test {h : HM} {g : List Ob} {x : List Nat} {p : Nat} {a1 a2 a3 : Option Val} (hp : p ≤ x.length) (hx : x.length ≤ 1000000) (ho : ∀ c ∈ x, c < 1114112) :
    txT [some (.ref h.length), a1, a2, a3] (h ++ Rdr x p :: g) = .ok (!decide ((x.drop p).take 1 = [59])) (h ++ Rdr x p :: g) := by
  have sl : ∀ H, vSl (.str (sg x)) (some (p : Nat)) (some (((p : Nat) : Int) + 1)) H = .ok (.str (sg ((x.drop p).take 1))) H := by
    intro H
    rw [sl_sg (by omega)]
    have n1 : ¬ ((p : Nat) : Int) < 0 := by omega
    have n2 : ¬ ((p : Nat) : Int) + 1 < 0 := by omega
    unfold cutL HT.sIx
    simp only [n1, n2, if_false]
    have e1 : min ((p : Nat) : Int).toNat x.length = p := by omega
    have e2 : (((p : Nat) : Int) + 1).toNat = p + 1 := by omega
    rw [e1, e2]
    congr 3
    rw [Nat.min_def]
    split
    · congr 1; omega
    · rw [List.take_of_length_le (by simp), List.take_of_length_le (by simp; omega)]
  have ne : ∀ H, vNe (.str (sg ((x.drop p).take 1))) (.str (sg [59])) H = .ok (.bl (!decide ((x.drop p).take 1 = [59]))) H := fun H => neSg (fun c hc => ho c (List.mem_of_mem_drop (List.mem_of_mem_take hc))) (by simp)
  unfold txT
  simp only [ev_tOf, ev_e2, ev_eSl, ev_eFld, ev_Var0, Res.bind_ok, text_g, ev_oSome, place_g, ev_C, ev_addI, sl, ne, ev_toB]
theorem tx_loop {h : HM} {x : List Nat} (hx : x.length ≤ 1000000) (ho : ∀ c ∈ x, c < 1114112) : ∀ (f F : Nat) (p : Nat) (acc : List Wd) (a2 a3 : Option Val) (r : Option (List Wd × List Nat)), p ≤ x.length → f ≤ F → acc.length + f ≤ 1000000 → textsR f (x.drop p) = some r →
    match r with
    | none => ∃ l' p' acc', whL txT m_texts_at_w0 F [some (.ref h.length), some (.ref (h.length + 1)), a2, a3] (h ++ [Rdr x p, .lst (acc.map eW)]) = .exc 4 l' (h ++ [Rdr x p', .lst acc'])
    | some (ts, rest) => ∃ b2 b3 q, whL txT m_texts_at_w0 F [some (.ref h.length), some (.ref (h.length + 1)), a2, a3] (h ++ [Rdr x p, .lst (acc.map eW)]) = .nx [some (.ref h.length), some (.ref (h.length + 1)), b2, b3] (h ++ [Rdr x q, .lst ((acc ++ ts).map eW)]) ∧ x.drop (q + 1) = rest ∧ q + 1 ≤ x.length := by
  intro f
  induction f with
  | zero => intro F p acc a2 a3 r _ _ _ e; cases e
  | succ f ih =>
    intro F p acc a2 a3 r hp hF hacc e
    obtain ⟨F, rfl⟩ : ∃ k, F = k + 1 := ⟨F - 1, by omega⟩
    have tt := tx_test (h := h) (g := [Ob.lst (acc.map eW)]) (a1 := some (.ref (h.length + 1))) (a2 := a2) (a3 := a3) hp hx ho
    unfold textsR at e
    rw [whL]
    simp only [tt, Res.thn_ok]
    by_cases h59 : (x.drop p).take 1 = [59]
    · rw [if_pos h59] at e
      cases e
      simp only [h59, decide_true, Bool.not_true, Bool.false_eq_true, if_false, List.append_nil]
      have hlt : p < x.length := by
        have := congrArg List.length h59
        simp at this
        omega
      exact ⟨a2, a3, p, rfl, by rw [List.drop_drop], by omega⟩
    · rw [if_neg h59] at e
      simp only [h59, decide_false, Bool.not_false, if_true]
      generalize hWW : whL txT m_texts_at_w0 F = WW
      unfold m_texts_at_w0
      rw [eq61, eq58]
      have u1 := until_g (h := h) (g := [Ob.lst (acc.map eW)]) (x := x) (c := 61) hp (by omega)
      simp only [ev_sSeq, ev_sAsg, ev_eCall, ev_aCons, ev_aNil, ev_eMeth, ev_Var0, Res.bind_ok, rdr_ins, if_true, ev_C, u1]
      cases c1 : cutC 61 (x.drop p) with
      | none =>
        rw [c1] at e
        cases e
        exact ⟨_, p, _, rfl⟩
      | some q1 =>
        obtain ⟨a, b⟩ := q1
        rw [c1] at e
        dsimp only at e
        obtain ⟨d1, d2, d3, d4⟩ := drop_cut c1 hp
        simp only [Res.bind_ok]
        cases m1 : markR a with
        | none => rw [m1] at e; cases e
        | some om =>
          rw [m1] at e
          rw [at_markOf (by omega) m1]
          cases om with
          | none =>
            cases e
            exact ⟨_, _, _, rfl⟩
          | some m =>
            simp only [pb_ok] at e
            have u2 := until_g (h := h) (g := [Ob.lst (acc.map eW)]) (x := x) (c := 58) d2 (by omega)
            rw [d1] at u2
            simp only [toX_ok, Res.thn_ok, ev_gNm0, ev_gNmS, Option.map_some, ev_sSeq, ev_sAsg, ev_eCall, ev_aCons, ev_aNil, ev_eMeth, ev_Var0, Res.bind_ok, rdr_ins, if_true, ev_C, u2]
            cases c2 : cutC 58 b with
            | none =>
              rw [c2] at e
              cases e
              exact ⟨_, _, _, rfl⟩
            | some q2 =>
              obtain ⟨c, d⟩ := q2
              rw [c2] at e
              dsimp only at e
              have c2' : cutC 58 (x.drop (p + a.length + 1)) = some (c, d) := by rw [d1]; exact c2
              obtain ⟨f1, f2, f3, f4⟩ := drop_cut c2' d2
              simp only [Res.bind_ok]
              cases n1 : numR c with
              | none => rw [n1] at e; cases e
              | some on =>
                rw [n1] at e
                rw [at_numberOf (by omega) n1]
                cases on with
                | none =>
                  cases e
                  exact ⟨_, _, _, rfl⟩
                | some k =>
                  simp only [pb_ok] at e
                  have s1 := signs_g (h := h) (g := [Ob.lst (acc.map eW)]) (x := x) (k := k) f2 (by omega)
                  rw [f1] at s1
                  have kd : ∀ q, isKd .list (.ref (h.length + 1)) (h ++ [Rdr x q, .lst (acc.map eW)]) = true := fun q => by
                    have := kd_last (h := h ++ [Rdr x q]) (ys := acc.map eW)
                    simpa using this
                  simp only [toX_ok, Res.thn_ok, ev_gNm0, ev_gNmS, Option.map_some, ev_sDrop, ev_eBm, ev_VarS, ev_Var0, Res.bind_ok, kd, if_true, ev_aCons, ev_aNil, ev_eDisp, ev_eMeth, rdr_ins, s1]
                  by_cases hk : d.length < k
                  · rw [if_pos hk] at e
                    cases e
                    rw [if_pos hk]
                    exact ⟨_, _, _, rfl⟩
                  · rw [if_neg hk] at e
                    rw [if_neg hk]
                    have ap : ∀ (q : Nat) (y : Val), mAppend (.ref (h.length + 1)) [y] (h ++ [Rdr x q, .lst (acc.map eW)]) = .ok .non (h ++ [Rdr x q, .lst (acc.map eW ++ [y])]) := fun q y => by
                      have := app_last (h := h ++ [Rdr x q]) (ys := acc.map eW) (y := y) (by simp; omega)
                      simpa using this
                    simp only [Res.bind_ok, ev_mkTup (xs := [eM m, .str (sg (d.take k))]) (by simp), ap, Res.thn_ok]
                    have le : p + a.length + 1 + c.length + 1 + k ≤ x.length := by
                      have := congrArg List.length f1
                      simp at this
                      omega
                    have dd : d.drop k = x.drop (p + a.length + 1 + c.length + 1 + k) := by rw [← f1, List.drop_drop]
                    have ea : acc.map eW ++ [Val.tup [eM m, .str (sg (d.take k))]] = (acc ++ [(m, sg (d.take k))]).map eW := by simp [eW]
                    rw [ea]
                    cases t1 : textsR f (d.drop k) with
                    | none => rw [t1] at e; cases e
                    | some o3 =>
                      rw [t1] at e
                      rw [dd] at t1
                      have z := ih F (p + a.length + 1 + c.length + 1 + k) (acc ++ [(m, sg (d.take k))]) (some (eM m)) (some (.int (k : Nat))) o3 le (by omega) (by simp; omega) t1
                      rw [hWW] at z
                      cases o3 with
                      | none =>
                        cases e
                        exact z
                      | some q3 =>
                        obtain ⟨ts, rest⟩ := q3
                        simp only [pb_ok, Option.some.injEq] at e
                        subst e
                        dsimp only at z ⊢
                        obtain ⟨b2, b3, q, z1, z2, z3⟩ := z
                        refine ⟨b2, b3, q, ?_, z2, z3⟩
                        rw [z1, List.append_assoc]
                        rfl
theorem at_textsAt {h : HM} {x : List Nat} {p : Nat} {r : Option (List Wd × List Nat)} (hx : x.length ≤ 90000) (ho : ∀ c ∈ x, c < 1114112) (hp : p ≤ x.length) (e : textsR ((x.drop p).length + 1) (x.drop p) = some r) : match r with
    | none => ∃ g, m_texts_at [.ref h.length] (h ++ [Rdr x p]) = .exc 4 (h ++ g)
    | some (ts, rest) => ∃ q, m_texts_at [.ref h.length] (h ++ [Rdr x p]) = .ok (.ref (h.length + 1)) (h ++ [Rdr x q, .lst (ts.map eW)]) ∧ x.drop q = rest ∧ q ≤ x.length := by
  have lp := tx_loop (h := h) (x := x) (by omega) ho ((x.drop p).length + 1) 100000 p [] none none r hp (by simp; omega) (by simp; omega) e
  have mk : mkRef [] (h ++ [Rdr x p]) = .ok (.ref (h.length + 1)) (h ++ [Rdr x p, .lst []]) := by rw [ev_mkRef (by simp)]; simp
  have lp' : m_texts_at [.ref h.length] (h ++ [Rdr x p]) = match (match whL txT m_texts_at_w0 100000 [some (.ref h.length), some (.ref (h.length + 1)), none, none] (h ++ [Rdr x p, .lst []]) with
      | .nx l1 h1 => sSeq (sFldM 2 1 (eVar 0) (e2 vAdd (eFld 2 1 (eVar 0)) (eC (.int 1)))) (sRet (eVar 1)) l1 h1
      | x => x) with | .nx _ h1 => .ok .non h1 | .rt v h1 => .ok v h1 | .exc c _ h1 => .exc c h1 | .bad => .bad := by
    unfold m_texts_at mF
    rw [eq59]
    show (match sSeq (sAsg (eDisp mkRef aNil) (gNm 1)) (sSeq (whL txT m_texts_at_w0 100000) (sSeq (sFldM 2 1 (eVar 0) (e2 vAdd (eFld 2 1 (eVar 0)) (eC (.int 1)))) (sRet (eVar 1)))) [some (.ref h.length), none, none, none] (h ++ [Rdr x p]) with | .nx _ h1 => _ | .rt v h1 => _ | .exc c _ h1 => _ | .bad => _) = _
    simp only [ev_sSeq, ev_sAsg, ev_eDisp, ev_aNil, Res.bind_ok, mk, Res.thn_ok, ev_gNm0, ev_gNmS, Option.map_some] <;> rfl
  rw [lp']
  cases r with
  | none =>
    obtain ⟨l', p', acc', e1⟩ := lp
    rw [List.map_nil] at e1
    rw [e1]
    exact ⟨_, rfl⟩
  | some q =>
    obtain ⟨ts, rest⟩ := q
    dsimp only at lp ⊢
    obtain ⟨b2, b3, q, e1, e2, e3⟩ := lp
    rw [List.map_nil] at e1
    rw [e1]
    refine ⟨q + 1, ?_, e2, e3⟩
    have cst : ((q : Nat) : Int) + 1 = ((q + 1 : Nat) : Int) := by omega
    simp only [ev_sSeq, ev_sFldM, ev_e2, ev_eFld, ev_Var0, ev_VarS, ev_C, Res.bind_ok, place_g, ev_addI, Res.thn_ok, cst, setp_g, ev_sRet, List.nil_append]
end
end MM
set_option exponentiation.threshold 1000
namespace MM
open PySem L2 PySem.W
noncomputable section
theorem nx_Reader_init (xs : List Val) (h : HM) (c : Nat) (h' : HM) : m_Reader_init xs h ≠ .exc c h' := by
  intro e
  unfold m_Reader_init mF at e
  generalize xs.map some ++ List.replicate (2 - xs.length) none = l at e
  simp only [ev_sSeq] at e
  rcases nx_fldM (c := 2) (i := 0) (k := 0) (l := l) (h := h) (mv := eVar 1) (nx_var.imp (fun ⟨v, q⟩ => ⟨v, _, q⟩) id) with ⟨h1, e1⟩ | e1
  · rw [e1] at e
    dsimp only at e
    rcases nx_fldM (c := 2) (i := 1) (k := 0) (l := l) (h := h1) (mv := eC (.int 0)) (.inl ⟨_, _, rfl⟩) with ⟨h2, e2⟩ | e2
    · rw [e2] at e; cases e
    · rw [e2] at e; cases e
  · rw [e1] at e; cases e
theorem make_rdr {x : List Nat} {h : HM} {l : Loc} : eMake 2 m_Reader_init (aCons (eVar 0) aNil) (some (.str (sg x)) :: l) h = .ok (.ref h.length) (h ++ [Rdr x 0]) := by
  have s0 : setF 2 0 (.ref h.length) (.str (sg x)) (h ++ [.ins 2 []]) = some (h ++ [.ins 2 [.str (sg x)]]) := by simp [setF]
  have s1 : setF 2 1 (.ref h.length) (.int 0) (h ++ [.ins 2 [.str (sg x)]]) = some (h ++ [Rdr x 0]) := by simp [setF, Rdr]
  have e : m_Reader_init [.ref h.length, .str (sg x)] (h ++ [.ins 2 []]) = .ok .non (h ++ [Rdr x 0]) := by
    unfold m_Reader_init mF
    show (match sSeq _ _ [some (.ref h.length), some (.str (sg x))] (h ++ [.ins 2 []]) with | .nx _ h1 => _ | .rt v h1 => _ | .exc c _ h1 => _ | .bad => _) = _
    simp only [ev_sSeq, ev_sFldM, ev_Var0, ev_VarS, ev_C, Res.thn_ok, s0, s1]
  simp only [ev_eMake, ev_aCons, ev_aNil, ev_Var0, Res.bind_ok, e]
theorem digitsVal_lt : ∀ (l : List Nat) (a : Nat), (∀ c ∈ l, 48 ≤ c ∧ c ≤ 57) → l.foldl (fun acc c => acc * 10 + (c - 48)) a < (a + 1) * 10 ^ l.length
  | [], a, _ => by simp
  | c :: l, a, h => by
    have hc := h c (by simp)
    have ih := digitsVal_lt l (a * 10 + (c - 48)) fun d hd => h d (by simp [hd])
    rw [List.foldl_cons]
    refine Nat.lt_of_lt_of_le ih ?_
    rw [List.length_cons, Nat.pow_succ, show (a + 1) * (10 ^ l.length * 10) = ((a + 1) * 10) * 10 ^ l.length by rw [Nat.mul_assoc, Nat.mul_comm 10 (10 ^ l.length)]]
    exact Nat.mul_le_mul_right _ (by omega)
theorem numR_sm {l : List Nat} {n : Nat} (e : numR l = some (some n)) : Sm (n : Nat) := by
  unfold numR at e
  split at e
  · rename_i hn
    split at e
    · rename_i hl
      cases e
      refine ⟨by omega, ?_⟩
      unfold isNum at hn
      simp only [Bool.and_eq_true, List.all_eq_true, decide_eq_true_eq] at hn
      have h1 := digitsVal_lt l 0 fun c hc => mem_figs.mp (hn.2 c hc)
      have h2 : 10 ^ l.length ≤ 10 ^ 570 := Nat.pow_le_pow_right (by decide) hl
      have h3 : 10 ^ 570 < big := by unfold big; decide +kernel
      unfold NumText.digitsVal
      omega
    · cases e
  · cases e
theorem markR_sm {l : List Nat} {m : Mk} (e : markR l = some (some m)) : SmM m := by
  unfold markR at e
  split at e
  · rename_i a b _
    cases e1 : numR a with
    | none => rw [e1] at e; cases e
    | some o1 =>
      cases o1 with
      | none => rw [e1] at e; cases e
      | some x =>
        cases e2 : numR b with
        | none => rw [e1, e2] at e; cases e
        | some o2 =>
          cases o2 with
          | none => rw [e1, e2] at e; cases e
          | some y =>
            rw [e1, e2] at e
            simp only [pb_ok, Option.some.injEq] at e
            subst e
            exact ⟨numR_sm e1, numR_sm e2⟩
  · cases e
theorem nameR_sm {l : List Nat} {p : Wd} (e : nameR l = some (some p)) : SmM p.1 ∧ p.2.length ≤ l.length ∧ ∀ c ∈ tl p.2, c ∈ l := by
  unfold nameR at e
  split at e
  · rename_i a b e0
    cases e1 : markR a with
    | none => rw [e1] at e; cases e
    | some o1 =>
      cases o1 with
      | none => rw [e1] at e; cases e
      | some m =>
        rw [e1] at e
        simp only [pb_ok, Option.some.injEq] at e
        subst e
        refine ⟨markR_sm e1, ?_, ?_⟩
        · rw [sg_len]; exact cutAll_len (c := 61) (by rw [e0]; simp)
        · rw [tl_sg]; exact cutAll_mem (c := 61) (by rw [e0]; simp)
  · cases e
theorem mapR_mem {α β : Type} {f : α → PR β} : ∀ {xs : List α} {ys : List β}, mapR f xs = some ys → ∀ y ∈ ys, ∃ x ∈ xs, f x = some (some y)
  | [], _, e, y, hy => by cases e; cases hy
  | x :: xs, ys, e, y, hy => by
    unfold mapR at e
    split at e
    · rename_i y0 ys' e1 e2
      cases e
      rcases List.mem_cons.mp hy with rfl | hy
      · exact ⟨x, by simp, e1⟩
      · obtain ⟨z, h1, h2⟩ := mapR_mem e2 y hy
        exact ⟨z, by simp [h1], h2⟩
    · cases e
theorem cutC_mem {c : Nat} {l a b : List Nat} (e : cutC c l = some (a, b)) : (∀ x ∈ a, x ∈ l) ∧ (∀ x ∈ b, x ∈ l) ∧ a.length + b.length + 1 = l.length := by
  obtain ⟨h, _⟩ := cutC_some e
  subst h
  exact ⟨fun x hx => by simp [hx], fun x hx => by simp [hx], by simp; omega⟩
theorem textsR_sm : ∀ (n : Nat) {l r : List Nat} {ts : List Wd}, textsR n l = some (some (ts, r)) → ts.length ≤ l.length ∧ ∀ p ∈ ts, SmM p.1 ∧ p.2.length ≤ l.length ∧ ∀ c ∈ tl p.2, c ∈ l
  | 0, _, _, _, e => by cases e
  | n + 1, l, r, ts, e => by
    unfold textsR at e
    split at e
    · cases e; simp
    · cases c1 : cutC 61 l with
      | none => rw [c1] at e; cases e
      | some q1 =>
        obtain ⟨a, b⟩ := q1
        rw [c1] at e
        dsimp only at e
        cases m1 : markR a with
        | none => rw [m1] at e; cases e
        | some om =>
          cases om with
          | none => rw [m1] at e; cases e
          | some m =>
            rw [m1] at e
            simp only [pb_ok] at e
            cases c2 : cutC 58 b with
            | none => rw [c2] at e; cases e
            | some q2 =>
              obtain ⟨c, d⟩ := q2
              rw [c2] at e
              dsimp only at e
              cases n1 : numR c with
              | none => rw [n1] at e; cases e
              | some on =>
                cases on with
                | none => rw [n1] at e; cases e
                | some k =>
                  rw [n1] at e
                  simp only [pb_ok] at e
                  split at e
                  · cases e
                  · cases t1 : textsR n (d.drop k) with
                    | none => rw [t1] at e; cases e
                    | some o3 =>
                      cases o3 with
                      | none => rw [t1] at e; cases e
                      | some q3 =>
                        obtain ⟨ts', r'⟩ := q3
                        rw [t1] at e
                        simp only [pb_ok, Option.some.injEq, Prod.mk.injEq] at e
                        obtain ⟨rfl, rfl⟩ := e
                        obtain ⟨a1, a2, a3⟩ := cutC_mem c1
                        obtain ⟨b1, b2, b3⟩ := cutC_mem c2
                        obtain ⟨h1, h2⟩ := textsR_sm n t1
                        have dl : (d.drop k).length ≤ d.length := by simp
                        refine ⟨by simp; simp at h1; omega, fun p hp => ?_⟩
                        rcases List.mem_cons.mp hp with rfl | hp
                        · refine ⟨markR_sm m1, by rw [sg_len, List.length_take]; omega, fun x hx => ?_⟩
                          rw [tl_sg] at hx
                          exact a2 x (b2 x (List.mem_of_mem_take hx))
                        · obtain ⟨g1, g2, g3⟩ := h2 p hp
                          exact ⟨g1, by omega, fun x hx => a2 x (b2 x (List.mem_of_mem_drop (g3 x hx)))⟩
def parseR (x : List Nat) : PR (Fl × List Nat) := match cutC 59 x with
  | none => some none
  | some (a, r1) => pb (markR a) fun id => match cutC 59 r1 with
    | none => some none
    | some (fi, r2) => match cutC 59 r2 with
      | none => some none
      | some (kn, r3) => match mapR markR (listL kn) with
        | none => none
        | some known => match cutC 59 r3 with
          | none => some none
          | some (nm, r4) => match mapR nameR (listL nm) with
            | none => none
            | some names => pb (textsR (r4.length + 1) r4) fun q => some (some (⟨id, sg fi, known, names, q.1⟩, q.2))
def goodB (f : Fl) : Bool := (fileV (eT f)).isSome
/-- the signs of a file -/
structure OkF (f : Fl) : Prop where
  first : ∀ c ∈ tl f.first, c < 1114112
  names : ∀ p ∈ f.names, ∀ c ∈ tl p.2, c < 1114112
  texts : ∀ p ∈ f.texts, ∀ c ∈ tl p.2, c < 1114112
theorem mem_joinL {S : List Nat} {c : Nat} : ∀ {xs : List (List Nat)}, c ∈ TL.joinL S xs → c ∈ S ∨ ∃ x ∈ xs, c ∈ x
  | [], h => by cases h
  | [p], h => .inr ⟨p, by simp, h⟩
  | p :: q :: r, h => by
    have h : c ∈ p ++ (S ++ TL.joinL S (q :: r)) := h
    simp only [List.mem_append] at h
    rcases h with h | h | h
    · exact .inr ⟨p, by simp, h⟩
    · exact .inl h
    · rcases mem_joinL h with z | ⟨x, h1, h2⟩
      · exact .inl z
      · exact .inr ⟨x, by simp only [List.mem_cons] at h1 ⊢; exact .inr h1, h2⟩
theorem digs_sm {n : Int} {c : Nat} (h : c ∈ digs n) : 48 ≤ c ∧ c ≤ 57 := TL.numL_digits _ c h
theorem markL_sm {m : Mk} {c : Nat} (h : c ∈ markL m) : c = 46 ∨ (48 ≤ c ∧ c ≤ 57) := by
  unfold markL at h
  simp only [List.mem_append, List.mem_cons] at h
  rcases h with h | rfl | h
  · exact .inr (digs_sm h)
  · exact .inl rfl
  · exact .inr (digs_sm h)
theorem wrL_ok {f : Fl} (h : OkF f) : ∀ c ∈ wrL f, c < 1114112 := by
  intro c hc
  have mk : ∀ {m : Mk}, c ∈ markL m → c < 1114112 := fun z => by rcases markL_sm z with rfl | z <;> omega
  unfold wrL at hc
  simp only [List.mem_append, List.mem_cons, List.not_mem_nil, or_false] at hc
  rcases hc with hc | rfl | hc | rfl | hc | rfl | hc | rfl | hc | rfl
  · exact mk hc
  · decide
  · exact h.first c hc
  · decide
  · rcases mem_joinL hc with z | ⟨x, h1, h2⟩
    · simp only [List.mem_singleton] at z; subst z; decide
    · obtain ⟨m, hm, rfl⟩ := List.mem_map.mp h1; exact mk h2
  · decide
  · rcases mem_joinL hc with z | ⟨x, h1, h2⟩
    · simp only [List.mem_singleton] at z; subst z; decide
    · obtain ⟨p, hp, rfl⟩ := List.mem_map.mp h1
      unfold nameP at h2
      simp only [List.mem_append, List.mem_cons] at h2
      rcases h2 with h2 | rfl | h2
      · exact mk h2
      · decide
      · exact h.names p hp c h2
  · decide
  · obtain ⟨x, h1, h2⟩ := List.mem_flatten.mp hc
    obtain ⟨p, hp, rfl⟩ := List.mem_map.mp h1
    unfold textP at h2
    simp only [List.mem_append, List.mem_cons] at h2
    rcases h2 with h2 | rfl | h2 | rfl | h2
    · exact mk h2
    · decide
    · have := digs_sm h2; omega
    · decide
    · exact h.texts p hp c h2
  · decide
theorem parse_sm {x : List Nat} {f : Fl} {rest : List Nat} (hx : x.length ≤ 900) (e : parseR x = some (some (f, rest))) : Wr f ∧ (∀ c ∈ tl f.first, c ∈ x) ∧ (∀ p ∈ f.names, ∀ c ∈ tl p.2, c ∈ x) ∧ ∀ p ∈ f.texts, ∀ c ∈ tl p.2, c ∈ x := by
  unfold parseR at e
  cases c1 : cutC 59 x with
  | none => rw [c1] at e; cases e
  | some q1 =>
    obtain ⟨a, r1⟩ := q1
    rw [c1] at e
    dsimp only at e
    obtain ⟨a1, a2, a3⟩ := cutC_mem c1
    cases m1 : markR a with
    | none => rw [m1] at e; cases e
    | some om =>
      cases om with
      | none => rw [m1] at e; cases e
      | some id =>
        rw [m1] at e
        simp only [pb_ok] at e
        cases c2 : cutC 59 r1 with
        | none => rw [c2] at e; cases e
        | some q2 =>
          obtain ⟨fi, r2⟩ := q2
          rw [c2] at e
          dsimp only at e
          obtain ⟨b1, b2, b3⟩ := cutC_mem c2
          cases c3 : cutC 59 r2 with
          | none => rw [c3] at e; cases e
          | some q3 =>
            obtain ⟨kn, r3⟩ := q3
            rw [c3] at e
            dsimp only at e
            obtain ⟨d1, d2, d3⟩ := cutC_mem c3
            cases k1 : mapR markR (listL kn) with
            | none => rw [k1] at e; cases e
            | some known =>
              rw [k1] at e
              dsimp only at e
              cases c4 : cutC 59 r3 with
              | none => rw [c4] at e; cases e
              | some q4 =>
                obtain ⟨nm, r4⟩ := q4
                rw [c4] at e
                dsimp only at e
                obtain ⟨g1, g2, g3⟩ := cutC_mem c4
                cases n1 : mapR nameR (listL nm) with
                | none => rw [n1] at e; cases e
                | some names =>
                  rw [n1] at e
                  dsimp only at e
                  cases t1 : textsR (r4.length + 1) r4 with
                  | none => rw [t1] at e; cases e
                  | some ot =>
                    cases ot with
                    | none => rw [t1] at e; cases e
                    | some qt =>
                      obtain ⟨ts, r5⟩ := qt
                      rw [t1] at e
                      simp only [pb_ok, Option.some.injEq, Prod.mk.injEq] at e
                      obtain ⟨rfl, rfl⟩ := e
                      obtain ⟨t2, t3⟩ := textsR_sm _ t1
                      have lk := mapR_len k1
                      have ln := mapR_len n1
                      have lk2 := listL_len (l := kn)
                      have ln2 := listL_len (l := nm)
                      have nms : ∀ p ∈ names, SmM p.1 ∧ p.2.length ≤ nm.length ∧ ∀ c ∈ tl p.2, c ∈ nm := fun p hp => by
                        obtain ⟨z, h1, h2⟩ := mapR_mem n1 p hp
                        obtain ⟨u1, u2, u3⟩ := nameR_sm h2
                        obtain ⟨v1, v2⟩ := listL_mem h1
                        exact ⟨u1, by omega, fun c hc => v2 c (u3 c hc)⟩
                      refine ⟨⟨markR_sm m1, by simp; omega, fun m hm => ?_, by simp; omega, fun p hp => ⟨(nms p hp).1, by have := (nms p hp).2.1; omega⟩, by simp; omega, fun p hp => ⟨(t3 p hp).1, by have := (t3 p hp).2.1; omega⟩, by simp; omega⟩, ?_, ?_, ?_⟩
                      · obtain ⟨z, h1, h2⟩ := mapR_mem k1 m hm
                        exact markR_sm h2
                      · intro c hc
                        rw [tl_sg] at hc
                        exact a2 c (b1 c hc)
                      · intro p hp c hc
                        exact a2 c (b2 c (d2 c (g1 c ((nms p hp).2.2 c hc))))
                      · intro p hp c hc
                        exact a2 c (b2 c (d2 c (g2 c ((t3 p hp).2.2 c hc))))
theorem asked_any {f : Fl} (hw : Wr f) : Asked (eT f) := by
  have tw : ∀ {xs : List Wd}, (∀ p ∈ xs, SmM p.1 ∧ p.2.length ≤ 1000) → xs.length ≤ 1000 → tame (.tup (xs.map eW)) = true := fun {xs} h hl => by
    refine tame_tupL rfl (by simp; omega) fun x hx => ?_
    obtain ⟨p, hp, rfl⟩ := List.mem_map.mp hx
    refine tame_tupL (xs := [eM p.1, .str p.2]) rfl (by simp) fun y hy => ?_
    simp only [List.mem_cons, List.not_mem_nil, or_false] at hy
    rcases hy with rfl | rfl
    · exact tame_eM _
    · exact tame_str (by have := (h p hp).2; omega)
  have tk : tame (.tup (f.known.map eM)) = true := by
    refine tame_tupL rfl (by have := hw.kl; simp; omega) fun x hx => ?_
    obtain ⟨p, hp, rfl⟩ := List.mem_map.mp hx
    exact tame_eM _
  refine ⟨?_, ?_, ?_⟩
  · refine tame_tupL (v := eT f) rfl (by simp) fun x hx => ?_
    simp only [List.mem_cons, List.not_mem_nil, or_false] at hx
    rcases hx with rfl | rfl | rfl | rfl | rfl
    · exact tame_eM _
    · exact tame_str (by have := hw.first; omega)
    · exact tk
    · exact tw hw.nm hw.nl
    · exact tw hw.tx hw.tl
  · intro xs e x hx
    cases e
    simp only [List.mem_cons, List.not_mem_nil, or_false] at hx
    rcases hx with rfl | rfl | rfl | rfl | rfl
    · intro ys ey; cases ey; rfl
    · intro ys ey; cases ey
    · intro ys ey; cases ey; exact noPs_mks _
    · intro ys ey; cases ey; exact noPs_wds _
    · intro ys ey; cases ey; exact noPs_wds _
  · intro x xs e
    cases e
    rfl
theorem isFile_any {f : Fl} {h : HM} (hw : Wr f) : m_is_file [eT f] h = .ok (.bl (goodB f)) h := at_isFile (asked_any hw)
theorem lst_src {xs : List Val} {h : HM} : srcOf (.lst xs) h = .ok (srcItems xs) h := rfl
end
end MM
namespace MM
open PySem L2 PySem.W
noncomputable section
/-- a number that can be read -/
def St (n : Int) : Prop := 0 ≤ n ∧ (digs n).length ≤ 570
def StM (m : Mk) : Prop := St m.1 ∧ St m.2
structure Pr (f : Fl) : Prop where
  id : StM f.id
  first : 59 ∉ tl f.first
  kn : ∀ m ∈ f.known, StM m
  nm : ∀ p ∈ f.names, StM p.1 ∧ 59 ∉ tl p.2 ∧ 44 ∉ tl p.2 ∧ 61 ∉ tl p.2
  tx : ∀ p ∈ f.texts, StM p.1 ∧ St (p.2.length : Nat)
theorem isNum_digs (n : Int) : isNum (digs n) = true := by
  unfold isNum
  simp only [Bool.and_eq_true, List.all_eq_true, decide_eq_true_eq]
  refine ⟨?_, fun c hc => mem_figs.mpr (digs_sm hc)⟩
  have := digs_ne n
  cases h : digs n with
  | nil => exact absurd h this
  | cons a l => rfl
theorem numR_digs {n : Int} (h : St n) : numR (digs n) = some (some n.toNat) := by
  unfold numR
  rw [if_pos (isNum_digs n), if_pos h.2]
  unfold digs
  rw [TL.numL_val]
theorem cutAll_two {c : Nat} {a b : List Nat} (ha : c ∉ a) (hb : c ∉ b) : cutAll c (a ++ c :: b) = [a, b] := by
  have h1 := TL.spl_part1 (s := c) (S := []) (p := a) (rest := b) (acc := []) ha
  have h2 := TL.spl_last1 (s := c) (S := []) (p := b) (acc := []) hb
  rw [h2] at h1
  exact h1
theorem markR_markL {m : Mk} (h : StM m) : markR (markL m) = some (some m) := by
  unfold markR markL
  rw [cutAll_two (digs_free (by omega)) (digs_free (by omega))]
  dsimp only
  rw [numR_digs h.1, pb_ok, numR_digs h.2, pb_ok]
  have h1 := h.1.1
  have h2 := h.2.1
  congr 2
  exact Prod.ext (by simp; omega) (by simp; omega)
theorem markL_ne (m : Mk) : markL m ≠ [] := by unfold markL; simp
theorem markL_free {m : Mk} {c : Nat} (h : c ≠ 46 ∧ (c < 48 ∨ 57 < c)) : c ∉ markL m := fun z => by
  rcases markL_sm z with rfl | z <;> omega
theorem nameR_nameP {p : Wd} (h : StM p.1) (h61 : 61 ∉ tl p.2) : nameR (nameP p) = some (some p) := by
  unfold nameR nameP
  rw [cutAll_two (markL_free (by omega)) h61]
  dsimp only
  rw [markR_markL h, pb_ok, sg_tl]
theorem mapR_map {α : Type} {f : List Nat → PR α} {g : α → List Nat} : ∀ {xs : List α}, (∀ x ∈ xs, f (g x) = some (some x)) → mapR f (xs.map g) = some xs
  | [], _ => rfl
  | x :: xs, h => by
    rw [List.map_cons, mapR, h x (by simp), mapR_map fun y hy => h y (by simp [hy])]
theorem joinL_ne {S : List Nat} {p : List Nat} {ps : List (List Nat)} (h : p ≠ []) : TL.joinL S (p :: ps) ≠ [] := by
  cases ps with
  | nil => exact h
  | cons q r =>
    show p ++ _ ≠ []
    simp [h]
theorem listL_join {xs : List (List Nat)} (hne : ∀ x ∈ xs, x ≠ []) (hf : ∀ x ∈ xs, 44 ∉ x) : listL (TL.joinL [44] xs) = xs := by
  unfold listL
  cases xs with
  | nil => rfl
  | cons p ps =>
    rw [if_neg (joinL_ne (hne p (by simp)))]
    exact SX.spl_join (by simp) hf
theorem known_back {f : Fl} (h : Pr f) : mapR markR (listL (TL.joinL [44] (f.known.map markL))) = some f.known := by
  rw [listL_join (fun x hx => by obtain ⟨m, _, rfl⟩ := List.mem_map.mp hx; exact markL_ne m) (fun x hx => by obtain ⟨m, _, rfl⟩ := List.mem_map.mp hx; exact markL_free (by omega))]
  exact mapR_map fun m hm => markR_markL (h.kn m hm)
theorem nameP_free {p : Wd} {c : Nat} (h : c ∉ tl p.2) (hc : c ≠ 46 ∧ c ≠ 61 ∧ (c < 48 ∨ 57 < c)) : c ∉ nameP p := by
  unfold nameP
  simp only [List.mem_append, List.mem_cons, not_or]
  exact ⟨markL_free (by omega), by omega, h⟩
theorem names_back {f : Fl} (h : Pr f) : mapR nameR (listL (TL.joinL [44] (f.names.map nameP))) = some f.names := by
  rw [listL_join (fun x hx => by obtain ⟨m, _, rfl⟩ := List.mem_map.mp hx; unfold nameP; simp) (fun x hx => by obtain ⟨p, hp, rfl⟩ := List.mem_map.mp hx; exact nameP_free (h.nm p hp).2.2.1 (by omega))]
  exact mapR_map fun p hp => nameR_nameP (h.nm p hp).1 (h.nm p hp).2.2.2
theorem markL_head (m : Mk) : ∃ d r, markL m = d :: r ∧ d ≠ 59 := by
  unfold markL
  cases h : digs m.1 with
  | nil => exact absurd h (digs_ne _)
  | cons d r =>
    refine ⟨d, r ++ 46 :: digs m.2, rfl, ?_⟩
    have := digs_sm (n := m.1) (c := d) (by rw [h]; simp)
    omega
theorem textsR_step {n : Nat} {p : Wd} {rest : List Nat} (h : StM p.1 ∧ St (p.2.length : Nat)) : textsR (n + 1) (textP p ++ rest) = pb (textsR n rest) fun q => some (some (p :: q.1, q.2)) := by
  have e : textP p ++ rest = markL p.1 ++ 61 :: (digs (p.2.length : Nat) ++ 58 :: (tl p.2 ++ rest)) := by simp [textP]
  have l1 := tl_len p.2
  rw [e, textsR]
  obtain ⟨d, r, hd, hne⟩ := markL_head p.1
  rw [if_neg (by rw [hd]; simp [hne]), cutC_app (markL_free (by omega))]
  dsimp only
  rw [markR_markL h.1, pb_ok, cutC_app (digs_free (by omega))]
  dsimp only
  rw [numR_digs h.2, pb_ok, if_neg (by simp; omega)]
  have e1 : (tl p.2 ++ rest).drop ((p.2.length : Nat) : Int).toNat = rest := by rw [Int.toNat_natCast, ← l1]; simp
  have e2 : (tl p.2 ++ rest).take ((p.2.length : Nat) : Int).toNat = tl p.2 := by rw [Int.toNat_natCast, ← l1]; simp
  rw [e1, e2, sg_tl]
theorem texts_back : ∀ {ts : List Wd} {n : Nat} {rest : List Nat}, (∀ p ∈ ts, StM p.1 ∧ St (p.2.length : Nat)) → ts.length < n → textsR n ((ts.map textP).flatten ++ 59 :: rest) = some (some (ts, rest))
  | [], n + 1, rest, _, _ => by
    simp [textsR]
  | [], 0, _, _, hn => by omega
  | p :: ts, 0, rest, _, hn => by omega
  | p :: ts, n + 1, rest, h, hn => by
    have e : ((p :: ts).map textP).flatten ++ 59 :: rest = textP p ++ ((ts.map textP).flatten ++ 59 :: rest) := by simp
    rw [e, textsR_step (h p (by simp)), texts_back (fun q hq => h q (by simp [hq])) (by simp at hn; omega)]
    rfl
theorem flat_len {ts : List Wd} : ts.length ≤ (ts.map textP).flatten.length := by
  induction ts with
  | nil => simp
  | cons p ts ih =>
    have : 1 ≤ (textP p).length := by simp [textP]; omega
    simp
    simp at ih
    omega
theorem free_known {f : Fl} : 59 ∉ TL.joinL [44] (f.known.map markL) := fun z => by
  rcases mem_joinL z with z | ⟨x, h1, h2⟩
  · simp at z
  · obtain ⟨m, _, rfl⟩ := List.mem_map.mp h1
    exact markL_free (by omega) h2
theorem free_names {f : Fl} (h : Pr f) : 59 ∉ TL.joinL [44] (f.names.map nameP) := fun z => by
  rcases mem_joinL z with z | ⟨x, h1, h2⟩
  · simp at z
  · obtain ⟨p, hp, rfl⟩ := List.mem_map.mp h1
    exact nameP_free (h.nm p hp).2.1 (by omega) h2
theorem parse_wr {f : Fl} {rest : List Nat} (h : Pr f) : parseR (wrL f ++ rest) = some (some (f, rest)) := by
  have e : wrL f ++ rest = markL f.id ++ 59 :: (tl f.first ++ 59 :: (TL.joinL [44] (f.known.map markL) ++ 59 :: (TL.joinL [44] (f.names.map nameP) ++ 59 :: ((f.texts.map textP).flatten ++ 59 :: rest)))) := by simp [wrL]
  have fl := flat_len (ts := f.texts)
  rw [e]
  unfold parseR
  rw [cutC_app (markL_free (by omega))]
  dsimp only
  rw [markR_markL h.id, pb_ok, cutC_app h.first]
  dsimp only
  rw [cutC_app free_known]
  dsimp only
  rw [known_back h]
  dsimp only
  rw [cutC_app (free_names h)]
  dsimp only
  rw [names_back h]
  dsimp only
  rw [texts_back h.tx (by simp at fl ⊢; omega), pb_ok, sg_tl]
end
end MM
namespace MM
open PySem L2 PySem.W
noncomputable section
/-- the files, without how what is known stands -/
def fg (D : List (Mk × (Fl × Bool))) : List (Mk × Fl) := D.map fun p => (p.1, p.2.1)
/-- a house with a number, a count, and these files -/
def HE (h : HM) (n : Nat) (own acts : Int) (E : List (Mk × Fl)) : Prop := ∃ D, fg D = E ∧ HouseAt h n ⟨own, acts, D⟩
/-- but for the house at n all stays -/
structure Fr (n : Nat) (h h' : HM) : Prop where
  len : h'.length = h.length
  get : ∀ k, k ≠ n → k ≠ n + 1 → h'[k]? = h[k]?
theorem Fr.refl {h : HM} {n : Nat} : Fr n h h := ⟨rfl, fun _ _ _ => rfl⟩
section
variable {h h' : HM} {n : Nat} {own acts : Int} {E : List (Mk × Fl)} {w : Mk} {f : Fl}
theorem HE.keep {k : Nat} (H : HE h k own acts E) (fr : Fr n h h') (h1 : k + 1 < n ∨ n + 1 < k) : HE h' k own acts E := by
  obtain ⟨D, e, q⟩ := H
  exact ⟨D, e, ⟨by rw [fr.get _ (by omega) (by omega)]; exact q.ins, by rw [fr.get _ (by omega) (by omega)]; exact q.sh⟩⟩
theorem HE.set {k : Nat} {o : Ob} (H : HE h n own acts E) (h1 : k ≠ n) (h2 : k ≠ n + 1) : HE (h.set k o) n own acts E := by
  obtain ⟨D, e, q⟩ := H
  exact ⟨D, e, ⟨by rw [List.getElem?_set_ne (by omega)]; exact q.ins, by rw [List.getElem?_set_ne (by omega)]; exact q.sh⟩⟩
theorem HE.lt (H : HE h n own acts E) : n + 1 < h.length := by obtain ⟨D, e, q⟩ := H; exact q.lt
end
end
end MM
namespace MM
open PySem L2 PySem.W
noncomputable section
theorem same_str (a : Str) (ho : PyData.strOk a = true) (h : HM) : s_law_same [.str a, .str a] h = .ok (.bl true) h := by rw [same_ok (by simp [pl, ho]) (by simp [pl, ho])]; simp [sameB]
theorem Gd.mono {n m : Nat} {f : Fl} (g : Gd n f) (h : n ≤ m) : Gd m f := ⟨g.id, g.first, g.fok, g.known, g.own, g.names, g.texts, Nat.le_trans g.ln h, Nat.le_trans g.lt h⟩
theorem Wfw.mono {n m : Nat} {ks : List Mk} {xs : List Wd} (g : Wfw n ks xs) (h : n ≤ m) : Wfw m ks xs := ⟨g.nd, g.sd, g.ok, g.wi, Nat.le_trans g.len h⟩
theorem Wff.mono {w : Mk} {x : Str} {n m : Nat} {f : Fl} (g : Wff w x n f) (h : n ≤ m) : Wff w x m f := ⟨g.id, g.first, g.nd, g.pos, g.sd, Nat.le_trans g.len h, g.names.mono h, g.texts.mono h⟩
@[simp] theorem ev_sLock {which : EM} {m : SM} {l : Loc} {h : HM} : sLock which m l h = match which l h with
  | .ok (.ref n) _ => (match h[n]? with
    | some o => (match lockO o with
      | some o' => (match m l (h.set n o') with
        | .nx l' h' => .nx l' (h'.set n o)
        | .rt v h' => .rt v (h'.set n o)
        | _ => .bad)
      | none => .bad)
    | none => .bad)
  | _ => .bad := (rfl)
end
end MM
namespace MM
open PySem L2 PySem.W
noncomputable section
theorem st_small {n : Int} (h0 : 0 ≤ n) (h1 : n < 10 ^ 12) : St n := by
  refine ⟨h0, Nat.le_trans (TL.numL_len (k := 12) (by decide) ?_) (by decide)⟩
  omega
theorem sm_st {n : Int} (h0 : 0 ≤ n) (h1 : n < 10 ^ 12) : Sm n := by
  refine ⟨h0, ?_⟩
  have : 10 ^ 12 < big := by unfold big; decide +kernel
  omega
/-- counts are small -/
def Low (f : Fl) : Prop := ∀ m ∈ f.known, m.2 < 10 ^ 12
theorem within_low {ks : List Mk} {m : Mk} (hb : ∀ m ∈ ks, m.2 < 10 ^ 12) (h : within m ks = true) : m.2 < 10 ^ 12 := by
  unfold within at h
  rw [List.any_eq_true] at h
  obtain ⟨k, hk, e⟩ := h
  simp only [Bool.and_eq_true, decide_eq_true_eq] at e
  have := hb k hk
  omega
theorem rg_stM {m : Mk} (h : Rg m) (hl : m.2 < 10 ^ 12) : StM m := by
  obtain ⟨h0, h1, h2⟩ := h
  exact ⟨st_small h0 (by omega), st_small (by omega) hl⟩
theorem rg_smM {m : Mk} (h : Rg m) (hl : m.2 < 10 ^ 12) : SmM m := by
  obtain ⟨h0, h1, h2⟩ := h
  exact ⟨sm_st h0 (by omega), sm_st (by omega) hl⟩
theorem name_free {x : Str} {c : Nat} (h : isName (.str x) = true) (hc : c ∉ lets) : c ∉ tl x := fun z => by
  unfold isName at h
  simp only [Bool.and_eq_true, List.all_eq_true, decide_eq_true_eq] at h
  exact hc (h.2 c z)
theorem name_len {x : Str} (h : isName (.str x) = true) : x.length ≤ 6 := by
  unfold isName at h
  simp only [Bool.and_eq_true, decide_eq_true_eq] at h
  exact h.1.2
theorem text_len {x : Str} (h : isText (.str x) = true) : x.length ≤ 60 := by
  unfold isText at h
  simpa using h
theorem isn_of {x : Str} (h : rightB 0 (.str x) = true) : isName (.str x) = true := by simpa [rightB] using h
theorem ist_of {x : Str} (h : rightB 1 (.str x) = true) : isText (.str x) = true := by simpa [rightB] using h
theorem strOk_tl {x : Str} (h : PyData.strOk x = true) : ∀ c ∈ tl x, c < 1114112 := by
  intro c hc
  unfold PyData.strOk at h
  rw [← Array.all_toList, List.all_eq_true] at h
  have := h c hc
  simpa using this
theorem Gd.pr {n : Nat} {f : Fl} (g : Gd n f) (hl : Low f) : Pr f := by
  refine ⟨rg_stM g.id (within_low hl g.own), name_free g.first (by decide), fun m hm => rg_stM (g.known.rg m hm) (hl m hm), fun p hp => ?_, fun p hp => ?_⟩
  · have nm := isn_of (g.names.ri p hp)
    exact ⟨rg_stM (g.names.rg p hp) (within_low hl (g.names.wi p hp)), name_free nm (by decide), name_free nm (by decide), name_free nm (by decide)⟩
  · have tx := text_len (ist_of (g.texts.ri p hp))
    exact ⟨rg_stM (g.texts.rg p hp) (within_low hl (g.texts.wi p hp)), st_small (by omega) (by omega)⟩
theorem Gd.wr {n : Nat} {f : Fl} (g : Gd n f) (hn : n ≤ 1000) (hl : Low f) : Wr f := by
  have := g.known.len
  refine ⟨rg_smM g.id (within_low hl g.own), Nat.le_trans (name_len g.first) (by decide), fun m hm => rg_smM (g.known.rg m hm) (hl m hm), by omega, fun p hp => ?_, Nat.le_trans g.ln hn, fun p hp => ?_, Nat.le_trans g.lt hn⟩
  · exact ⟨rg_smM (g.names.rg p hp) (within_low hl (g.names.wi p hp)), Nat.le_trans (name_len (isn_of (g.names.ri p hp))) (by decide)⟩
  · exact ⟨rg_smM (g.texts.rg p hp) (within_low hl (g.texts.wi p hp)), Nat.le_trans (text_len (ist_of (g.texts.ri p hp))) (by decide)⟩
theorem Gd.okF {n : Nat} {f : Fl} (g : Gd n f) : OkF f := ⟨strOk_tl g.fok, fun p hp => strOk_tl (g.names.ok p hp), fun p hp => strOk_tl (g.texts.ok p hp)⟩
theorem Gd.goodB {n : Nat} {f : Fl} (g : Gd n f) : goodB f = true := by
  unfold MM.goodB eT
  rw [fileV_good (k := .tup (f.known.map eM)) g rfl]
  rfl
theorem digs_len12 {n : Int} (h0 : 0 ≤ n) (h1 : n < 10 ^ 12) : (digs n).length ≤ 12 := TL.numL_len (k := 12) (by decide) (by omega)
theorem digs_one {n : Int} (h0 : 0 ≤ n) (h1 : n < 10) : digs n = [48 + n.toNat] := TL.numL_lt (by omega)
theorem markL_len14 {m : Mk} (h : Rg m) (hl : m.2 < 10 ^ 12) : (markL m).length ≤ 14 := by
  obtain ⟨h0, h1, h2⟩ := h
  have := digs_len12 (n := m.2) (by omega) hl
  simp [markL, digs_one h0 (by omega : m.1 < 10)]
  omega
theorem Gd.len {n : Nat} {f : Fl} (g : Gd n f) (hl : Low f) : (wrL f).length ≤ 125 + 110 * n := by
  have h1 := markL_len14 g.id (within_low hl g.own)
  have h2 := name_len g.first
  have h3 := tl_len f.first
  have k1 := joinL_len [44] (f.known.map markL)
  have k2 := sum_le (xs := f.known.map markL) (b := 14) (fun x hx => by obtain ⟨m, hm, rfl⟩ := List.mem_map.mp hx; exact markL_len14 (g.known.rg m hm) (hl m hm))
  have k3 := g.known.len
  have n1 := joinL_len [44] (f.names.map nameP)
  have n2 := sum_le (xs := f.names.map nameP) (b := 21) (fun x hx => by
    obtain ⟨p, hp, rfl⟩ := List.mem_map.mp hx
    have a := markL_len14 (g.names.rg p hp) (within_low hl (g.names.wi p hp))
    have b := name_len (isn_of (g.names.ri p hp))
    have c := tl_len p.2
    simp only [nameP, List.length_append, List.length_cons]; omega)
  have n3 := g.ln
  have t1 := joinL_len [] (f.texts.map textP)
  have t2 := sum_le (xs := f.texts.map textP) (b := 88) (fun x hx => by
    obtain ⟨p, hp, rfl⟩ := List.mem_map.mp hx
    have a := markL_len14 (g.texts.rg p hp) (within_low hl (g.texts.wi p hp))
    have b := text_len (ist_of (g.texts.ri p hp))
    have c := tl_len p.2
    have d := digs_len12 (n := (p.2.length : Nat)) (by omega) (by omega)
    simp only [textP, List.length_append, List.length_cons]; omega)
  have t3 := g.lt
  rw [joinL_nil] at t1
  simp only [List.length_map, List.length_cons, List.length_nil] at k1 k2 n1 n2 t1 t2
  simp only [wrL, List.length_append, List.length_cons, List.length_nil]
  omega
end
end MM
namespace L2
open PySem PySem.Spec PyProof.Rows
/-- noted by the frame L, wherever it flew -/
theorem Sky.note {B : Heap} {M : Model} {A : Around} {E : Value → Shared → Prop} {env : Env} {outer : List Env} {L C a : Addr} {Z : Obj → Prop} {Q : Unit → Shared → Prop} {s : Shared} (hZ : HandSPX.Steady Z) (hfr : A.frames = some (env :: outer)) (hf : env.frame = some L)
    (x : Sky B (env :: outer) a Z C s.heap) (hQ : ∀ h', HandSPX.HeldZ B (env :: outer) a Z L h' → s.heap.UpToSlots h' → Q () { s with heap := h' }) : wpAny M A (noteFrame (.ref a) env) Q E s := by
  rcases x with ⟨hB, hn, hl, oe, vs, he, hz, hd, h1⟩ | fl | hh
  · exact HandSPX.look_newZ hZ hfr hl hf he hB hn hd h1 hz hQ
  · exact HandSPX.looks_onZ hZ hfr hf fl hQ
  · by_cases hCL : C = L
    · subst hCL
      exact HandSPX.againZ hf hh.2.2.2 (hQ s.heap hh (Heap.UpToSlots.refl _))
    · obtain ⟨hkb, hen, hl, oe, vs, T, oT, ts, he, hz, hd, h1, hnT, hTe, hT, hdT, h3⟩ := hh
      unfold noteFrame
      simp only [hf]
      refine wpAny_bind (wpAny_field he hd h1 ?_)
      rw [if_pos (show (Value.ref T != Value.none) = true from by simp)]
      refine wpAny_bind (wpAny_field hT hdT h3 ?_)
      rw [if_neg (show ¬ ((rawInt C == rawInt L) = true) from fun z => hCL (by
        have z2 : (rawInt (C : Int) : Value) = rawInt (L : Int) := by simpa using z
        unfold rawInt at z2
        injection z2 with z3
        exact Int.ofNat.inj z3))]
      refine wpAny_bind (wpAny_setField hT hdT (Array.getElem?_eq_some_iff.mp h3).1 ?_)
      have other : ∀ b, b ≠ T → (s.heap.update T (Obj.mapFields (·.setIfInBounds 3 Value.none))).get? b = s.heap.get? b := fun b hb => Heap.get?_update_other _ _ (Ne.symm hb)
      have noRecord : ∀ b o, s.heap.get? b = some o → (∀ vs, o.data ≠ .fields vs) → b ≠ T := fun b o hb hnf q => by
        rw [q, hT] at hb; injection hb with hb; subst hb; exact hnf ts hdT
      refine HandSPX.wpAny_entryZ hZ hfr (hl.of_keeps fun b o hb hnf => ⟨o, (other b (noRecord b o hb hnf)).trans hb, rfl⟩) hf ((other a (Ne.symm hTe)).trans he)
        (fun b o hbo => (other b fun q => by rw [q, hnT] at hbo; cases hbo).trans (hkb b o hbo)) hen hd (Array.getElem?_eq_some_iff.mp h1).1 hz fun h' hN => ?_
      obtain ⟨x1, x2, x3, x4⟩ := hN
      exact hQ h' ⟨x1, hen, x2, x3⟩ fun b o hb hnf => x4 b o ((other b (noRecord b o hb hnf)).trans hb) hnf
section
variable {X : Cx}
/-- what leaves the element of a comprehension leaves the def's statement: its block goes, the exception flies on -/
theorem comp_fails {pins : List (Addr × Obj)} {σ : St} {H' : Hp} {sI s' : Shared} {ce : Env} {B : Heap} {a : Addr} {cls : Value} {d : Option Addr} {W : WX}
    (hs : X.stack = X.env :: X.outer) (hf : X.env.frame = some X.env.locals) (tk : Takes X W) (hcf : ce.frame = X.env.frame)
    (IX : Inv X pins σ H' sI) (fC : FpOk X pins H' ce.locals) (loc : ∃ m, sI.heap.Ns ce.locals m) (nC : ce.locals ∉ frs X.stack)
    (nb : ∀ b o, sI.heap.get? b = some o → b ∉ frs X.stack → B.get? b = some o) (up : sI.heap.UpToSlots s'.heap) (sky : Sky B X.stack a (Zc cls d) ce.locals s'.heap) (na : H' a = none) (os : s'.os = sI.os) (ag : AllBare s'.gens) (w : W cls d σ H') :
    notedBy (model X.prog X.w) X.A ce (CompFails (model X.prog X.w) X.A X.xe ce) (.ref a) s' := by
  have hfr : X.A.frames = some (X.env :: X.outer) := by rw [IX.ok.frames, hs]
  show wpAny (model X.prog X.w) X.A (noteFrame (.ref a) ce) _ _ s'
  rw [noteFrame_env _ hcf]
  rw [hs] at sky
  refine Sky.note Zc.steady hfr hf sky fun h1 held up1 => ?_
  obtain ⟨m, hn⟩ := loc
  have up2 := up.trans up1
  have hn1 : h1.Ns ce.locals m := hn.upToSlots up2
  refine ⟨m, hn1, fun h2 m2 hn2 hs2 => ?_⟩
  obtain ⟨hkb, hen, hl, oe, vs, T, oT, ts, he, hz, hd, hv1, hnT, hTe, hT, hdT, h3⟩ := held
  obtain ⟨oC, es, ep, hoC, hdC, _⟩ := hn2
  obtain ⟨oC0, es0, ep0, hoC0, hdC0, _⟩ := hn
  obtain ⟨oC1, es1, ep1, hoC1, hdC1, _⟩ := hn1
  -- the block in the ground
  have bC : B.get? ce.locals = some oC0 := nb _ _ hoC0 nC
  have aC : a ≠ ce.locals := fun e => by rw [e, hoC1] at he; injection he with he; rw [← he, hdC1] at hd; cases hd
  have tC : T ≠ ce.locals := fun e => by rw [e, hoC1] at hT; injection hT with hT; rw [← hT, hdC1] at hdT; cases hdT
  have nfr : (oC : Obj).isFreed = false := Obj.isFreed_of_dict hdC
  have upd1 : ∀ {h : Heap} {o : Obj}, h.get? ce.locals = some o → (h.update ce.locals fun _ => oC).get? ce.locals = some oC := fun {h o} e => Heap.get?_update_self (fun _ => oC) e nfr
  have upd2 : ∀ {h : Heap} {b : Addr}, b ≠ ce.locals → (h.update ce.locals fun _ => oC).get? b = h.get? b := fun {h b} e => Heap.get?_update_other _ _ (Ne.symm e)
  obtain ⟨B2, hB2⟩ : ∃ B2, B2 = B.update ce.locals fun _ => oC := ⟨_, rfl⟩
  have b2C : B2.get? ce.locals = some oC := by rw [hB2]; exact upd1 bC
  have b2n : ∀ b, b ≠ ce.locals → B2.get? b = B.get? b := fun b e => by rw [hB2]; exact upd2 e
  have kb2 : B2.StaysIn h2 := fun b o e => by
    by_cases c : b = ce.locals
    · subst c; rw [b2C] at e; cases e; exact hoC
    · rw [b2n b c] at e
      exact (hs2.2 b c).trans (hkb b o e)
  have l1 : h2.FunFrames B (X.env :: X.outer) := Heap.FunFrames.sameBut hs2 ⟨oC, es, ep, hoC, hdC, ‹_›⟩ hl
  have l2 : h2.FunFrames B2 (X.env :: X.outer) := funFrames_none l1 fun L hL => by
    have e0 := (l1.mem hL).1
    have : L ≠ ce.locals := fun z => by rw [z, bC] at e0; cases e0
    rw [b2n L this]; exact e0
  have he2 : h2.get? a = some oe := (hs2.2 a aC).trans he
  have hT2 : h2.get? T = some oT := (hs2.2 T tC).trans hT
  have held2 : HandSPX.HeldZ B2 (X.env :: X.outer) a (Zc cls d) X.env.locals h2 :=
    ⟨kb2, by rw [b2n a aC]; exact hen, l2, oe, vs, T, oT, ts, he2, hz, hd, hv1, by rw [b2n T tC]; exact hnT, hTe, hT2, hdT, h3⟩
  unfold PySem.passOn
  refine wpAny_bind (wpAny_field he2 hd hv1 ?_)
  rw [if_neg (show ¬ ((Value.ref T == Value.none) = true) from by simp), hcf, hf]
  refine wpAny_bind (HandSPX.setFlight_onZ held2 fun h4 held4 up4 => wpAny_throw (tk _ _ ?_))
  obtain ⟨f0, f1, f2, f3, f4, f5⟩ := fC
  have IX2 : Inv X pins σ H' { sI with heap := sI.heap.update ce.locals fun _ => oC } :=
    IX.turned (t' := sI.toks) (fun b o hb e => (upd2 hb).trans e) f0 f1 f3 f4 f5
  refine ⟨a, B2, { sI with heap := sI.heap.update ce.locals fun _ => oC }, pins, σ, H', cls, d, rfl, IX2, fun b o e hb => ?_, fun b o e hnf => ?_, by rw [hs]; exact .inr (.inr held4), na, os, ag, w⟩
  · by_cases c : b = ce.locals
    · subst c
      have e : (sI.heap.update ce.locals fun _ => oC).get? ce.locals = some o := e
      rw [upd1 hoC0] at e; cases e; exact b2C
    · have e : (sI.heap.update ce.locals fun _ => oC).get? b = some o := e
      rw [upd2 c] at e
      rw [b2n b c]; exact nb b o e hb
  · by_cases c : b = ce.locals
    · subst c
      have e : (sI.heap.update ce.locals fun _ => oC).get? ce.locals = some o := e
      rw [upd1 hoC0] at e; cases e
      exact up4 _ _ hoC hnf
    · have e : (sI.heap.update ce.locals fun _ => oC).get? b = some o := e
      rw [upd2 c] at e
      obtain ⟨sl, e1⟩ := up2 b o e hnf
      have e2 : h2.get? b = some { o with slots := sl } := (hs2.2 b c).trans e1
      obtain ⟨sl2, e3⟩ := up4 b _ e2 hnf
      exact ⟨sl2, e3⟩
/-- [elt for target in iter if ..], an exception may leave elt: te by what is wished of it -/
def tLcX (wi : TI) (g : TG) (tt : TT) (te : WX → TE) (vs : List Nat) (W : WX) : TE := fun σ H Q => wi σ H fun J H1 => ∀ D, H1 D = none → ∃ Wv : Nat → Nat → Hp → Prop, (∃ m, Wv 0 m (upd H1 D (.lst []))) ∧ ∀ i m H, Wv i m H →
  (J.stop i H ∧ Q (.ref D) H) ∨ (J.go i H ∧ ∃ Nx : Hp → Prop, (∀ H', Nx H' → ∃ m', m' < m ∧ Wv (i + 1) m' H') ∧ ∀ x H', J.yld i H x H' → g x (wipe σ vs) H' fun σ2 H2 => wipe σ2 vs = wipe σ vs ∧ tt σ2 H2 fun b H3 =>
    if b = true then te (fun cls d _ H' => W cls d σ H') σ2 H3 fun y H4 => ∃ acc, H4 D = some (.lst acc) ∧ acc.length < sizeLine ∧ Nx (upd H4 D (.lst (acc ++ [y]))) else Nx H3)
theorem lc_coreX {W : WX} {pins : List (Addr × Obj)} {s : Shared} {σ : St} {H : Hp} {Q : VK} {elt tg iter : Expr} {ifs : List Expr} {scope : Scope} {own : List (Str × Nat)} {pos pos' : Pos} {wi : TI} {g : TG} {tt : TT} {te : WX → TE} {use : Option (Value → Sem Unit)} {Qf : Value → Shared → Prop}
    (hs1 : X.stack = X.env :: X.outer) (hf1 : X.env.frame = some X.env.locals) (tk : Takes X W)
    (hc : X.calm = true) (hN : X.N.Nodup) (I : Inv X pins σ H s) (hi : PI X tg iter wi) (ok : BlkOk X.N X.env.scope scope own)
    (hg : ∀ (s : Shared) (H : Hp) (C : Addr) (cl : List (Str × Addr)) (fp : List Addr), PG (X.blk s H scope (compEnvC scope cl C X.env) fp) tg g) (ht : ∀ (s : Shared) (H : Hp) (C : Addr) (cl : List (Str × Addr)) (fp : List Addr), PTs (X.blk s H scope (compEnvC scope cl C X.env) fp) ifs tt)
    (he : ∀ (s : Shared) (H : Hp) (C : Addr) (cl : List (Str × Addr)) (fp : List Addr) (W' : WX) (xe : Value → Shared → Prop), Takes ((X.blk s H scope (compEnvC scope cl C X.env) fp).wish xe) W' → PE ((X.blk s H scope (compEnvC scope cl C X.env) fp).wish xe) elt (te W')) (hs : ∀ x, foldedSetIterable iter X.env x = pure x)
    (h : tLcX wi g tt te (own.map (·.2)) W σ H Q)
    (hRR : ∀ D (ce : Env) s' m H', Inv X pins σ H' s' → Q (.ref D) H' → s'.heap.Ns ce.locals m → FpOk X pins H' ce.locals → compEnds (model X.prog X.w) X.A X.xe use Qf (.ref D) ce (.ok .next) s') :
    wpAny (model X.prog X.w) X.A (comprehension (.ListComp elt [⟨tg, iter, ifs, 0⟩] scope pos) scope X.env pos' (newList []) false (eval iter X.env) use) Qf X.xe s := by
  have hfree : ∀ y ∈ scope.names, y.2 = .free → ∃ c, X.env.cells.lookup y.1 = some c := fun y hy e => by
    rcases ok.free y hy e with k | k
    · exact I.ok.has _ (.inl k)
    · exact I.ok.has _ (.inr k)
  refine comprehension_at (use := use) rfl hs (closure_ok hfree) ok.kind (fun y hy e => by rw [ok.uniq y hy, e])
    (thn (hi.run pins s σ H _ I h) fun xv s1 hx => thn hx fun itv s2 h2 => ?_)
  obtain ⟨it, fp, tn, J, H2, e, I2, T, st2, f2, q⟩ := h2
  subst e
  refine wpAny_newObj_type (newEnv_comp ?_) (by show 0 ≤ sizeLine; decide)
  generalize hD : s2.heap.objs.size = D
  have hDn : H2 D = none := I2.hok.fresh (Nat.le_of_eq hD)
  obtain ⟨Wv, ⟨m0, w0⟩, turn⟩ := q D hDn
  generalize hs3 : ({ s2 with heap := s2.heap.push { cls := .type "list", data := .seq ([] : List Value).toArray } } : Shared) = s3
  have I3 : Inv X pins σ (upd H2 D (.lst [])) s3 := by
    rw [← hs3]
    refine I2.laid (t' := s2.toks) (fun b o e => Heap.get?_push_of_some _ e) (Nat.le_of_eq hD) ⟨Nat.zero_le _, [], 0, .nil, ?_⟩
    rw [← hD]
    exact Heap.get?_push_size _ rfl
  have h3 : s3.heap = s2.heap.push { cls := .type "list", data := .seq ([] : List Value).toArray } := by rw [← hs3]
  have sz : ∀ b ∈ fp, b < s2.heap.objs.size := fun b hb => by
    obtain ⟨o, e, _⟩ := T.obj _ _ st2 b hb
    exact Heap.lt_size e
  have f3 : ∀ b ∈ fp, FpOk X pins (upd H2 D (.lst [])) b ∧ b < s3.heap.objs.size := fun b hb => by
    have hlt := sz b hb
    refine ⟨⟨?_, (f2 b hb).2⟩, by rw [h3, Heap.size_push]; exact Nat.lt_succ_of_lt hlt⟩
    rw [upd_ne (by rw [← hD]; exact Nat.ne_of_lt hlt)]
    exact (f2 b hb).1
  have st3 : tn 0 s3.heap := T.keep _ _ _ st2 fun b _ o e => by rw [h3]; exact Heap.get?_push_of_some _ e
  have I4 := block_start I3 ok hN f3
  have pg := hg s3 (upd H2 D (.lst [])) s3.heap.objs.size (cellsFrom (s3.heap.objs.size + 1) scope.names (cloFrom X.env.cells scope.names [])) fp
  have pt := ht s3 (upd H2 D (.lst [])) s3.heap.objs.size (cellsFrom (s3.heap.objs.size + 1) scope.names (cloFrom X.env.cells scope.names [])) fp
  have pe := he s3 (upd H2 D (.lst [])) s3.heap.objs.size (cellsFrom (s3.heap.objs.size + 1) scope.names (cloFrom X.env.cells scope.names [])) fp (fun cls d _ H' => W cls d σ H')
  show codeAny _ _ (.compStart (.ListComp elt [⟨tg, iter, ifs, 0⟩] scope pos) 0 (.ref it) (.ref D) (compEnvC scope (cellsFrom (s3.heap.objs.size + 1) scope.names (cloFrom X.env.cells scope.names [])) s3.heap.objs.size X.env)) (compEnds (model X.prog X.w) X.A X.xe use Qf (.ref D) (compEnvC scope (cellsFrom (s3.heap.objs.size + 1) scope.names (cloFrom X.env.cells scope.names [])) s3.heap.objs.size X.env)) { s3 with heap := pushCells (s3.heap.push { cls := .type "dict", data := .dict #[] }) scope.names }
  have nfp : ∀ b ∈ fp, (upd H2 D (.lst [])) b = none := fun b hb => (f3 b hb).1.1
  have hcf : (compEnvC scope (cellsFrom (s3.heap.objs.size + 1) scope.names (cloFrom X.env.cells scope.names [])) s3.heap.objs.size X.env).frame = X.env.frame := rfl
  generalize hce : compEnvC scope (cellsFrom (s3.heap.objs.size + 1) scope.names (cloFrom X.env.cells scope.names [])) s3.heap.objs.size X.env = ce at I4 pg pt pe hcf ⊢
  have cL : ce.locals = s3.heap.objs.size := by subst hce; rfl
  generalize hH3 : upd H2 D (.lst []) = H3 at I3 I4 pg pt pe w0 nfp f3
  generalize hs4 : ({ s3 with heap := pushCells (s3.heap.push { cls := .type "dict", data := .dict #[] }) scope.names } : Shared) = s4 at I4 ⊢
  have st4 : tn 0 s4.heap := T.keep _ _ _ st3 fun b _ o e => by rw [← hs4]; exact pushCells_keeps _ _ _ _ (Heap.get?_push_of_some _ e)
  have stat : ∀ {σ' : St} {H' : Hp} {s' : Shared}, Inv (X.blk s3 H3 scope ce fp) [] σ' H' s' → (∀ b ∈ fp, H' b = none) → ∀ b ∈ fp, FpOk (X.blk s3 H3 scope ce fp) [] H' b := fun {σ' H' s'} I' hn b hb =>
    ⟨hn b hb, (I'.ok.exf b hb).1, I'.ok.exfs b hb, .inl hb, fun x c e => (I'.ok.exf b hb).2 x c e, fun p hp => absurd (show p ∈ ([] : List (Addr × Obj)) ++ [] from hp) (by simp)⟩
  -- what an exception finds
  have back : ∀ {pins' : List (Addr × Obj)} {σ' : St} {H' : Hp} {s' : Shared}, Inv (X.blk s3 H3 scope ce fp) pins' σ' H' s' → Inv X pins σ H' s' ∧ FpOk X pins H' ce.locals ∧ ∃ m, s'.heap.Ns ce.locals m := fun {pins' σ' H' s'} I6 => by
    have I7 : Inv X pins σ H' s' := I3.call' (ch := fp) I6.os I6.base I6.hok I6.bare fun b hb => ⟨(f3 b hb).1.2.2.2.1, (f3 b hb).1.2.1, (f3 b hb).1.2.2.2.2.1, (f3 b hb).1.2.2.2.2.2⟩
    have nC : H' s3.heap.objs.size = none := by
      have z : H' ce.locals = none := I6.free
      rw [cL] at z
      exact z
    obtain ⟨m, hn, _⟩ := I6.loc
    exact ⟨I7, by rw [cL]; exact I3.fpOk (Nat.le_refl _) nC, m, hn⟩
  have nfs : ce.locals ∉ frs X.stack := fun hm => by
    obtain ⟨_, o, ho, _⟩ := I3.stack.mem hm
    rw [cL] at ho
    exact absurd (Heap.lt_size ho) (Nat.lt_irrefl _)
  have tkE : Takes ((X.blk s3 H3 scope ce fp).wish fun u s' => notedBy (model X.prog X.w) X.A ce (CompFails (model X.prog X.w) X.A X.xe ce) u s') (fun cls d _ H' => W cls d σ H') := fun u s' ⟨a, B, sI, pins', σ', H', cls, d, e, I', nb, up, sky, na, os, ag, w⟩ => by
    subst e
    obtain ⟨IX, fC, loc⟩ := back I'.unwish
    exact comp_fails hs1 hf1 tk hcf IX fC loc nfs nb up sky na os ag w
  have pe := pe _ tkE
  have loop : codeAny (model X.prog X.w) X.A (.compLoop (.ListComp elt [⟨tg, iter, ifs, 0⟩] scope pos) 0 (.ref it) (.ref D) ce) (compEnds (model X.prog X.w) X.A X.xe use Qf (.ref D) ce) s4 := by
    refine compLoop_any (fun n s' => ∃ i H', Inv (X.blk s3 H3 scope ce fp) [] (wipe σ (own.map (·.2))) H' s' ∧ tn i s'.heap ∧ (∀ b ∈ fp, H' b = none) ∧ Wv i n H') ?_ m0 ⟨0, H3, I4, st4, nfp, w0⟩
    rintro n s5 ⟨i, H5, I5, st5, n5, w5⟩
    rcases turn i n H5 w5 with ⟨stop, qq⟩ | ⟨go, Nx, hNx, step⟩
    · have td := T.done (X.blk s3 H3 scope ce fp) rfl rfl rfl hc i [] s5 _ H5 (fun _ _ => False) I5 (stat I5 n5) st5 stop
      refine thnF td fun r s6 ⟨hr, I6⟩ => ?_
      subst hr
      obtain ⟨I7, fC, m, hn⟩ := back I6
      exact hRR D ce s6 m H5 I7 qq hn fC
    · have ti := T.item (X.blk s3 H3 scope ce fp) rfl rfl rfl hc i [] s5 _ H5 (fun _ _ => False) I5 (stat I5 n5) st5 go
      refine thnF ti fun r s6 ⟨u, hr, h6⟩ => ?_
      subst hr
      refine thnF h6 fun _ s7 ⟨x, H7, I7, r7, y7, st7, n7⟩ => ?_
      have I7' := I7.pinned (stat I7 n7) (T.obj _ _ st7)
      refine thnF (pg.run _ s7 _ H7 x u _ I7' r7 (step x H7 y7)) fun _ s8 ⟨σ8, H8, I8, hw8, q8⟩ => ?_
      refine thnF (pt.run _ s8 σ8 H8 _ I8 q8) fun b s9 ⟨H9, I9, q9⟩ => ?_
      have fin : ∀ {s' : Shared} {H' : Hp}, Inv (X.blk s3 H3 scope ce fp) ([] ++ pinsAt fp s7.heap) σ8 H' s' → Nx H' → ∃ m, m < n ∧ ∃ i H', Inv (X.blk s3 H3 scope ce fp) [] (wipe σ (own.map (·.2))) H' s' ∧ tn i s'.heap ∧ (∀ b ∈ fp, H' b = none) ∧ Wv i m H' := fun {s' H'} I' nx => by
        obtain ⟨m', hm, w'⟩ := hNx H' nx
        have pin' : ∀ b ∈ fp, ∀ o, s7.heap.get? b = some o → s'.heap.get? b = some o ∧ H' b = none := fun b hb o e =>
          let z := I'.pin (b, o) (List.mem_append_right _ (List.mem_append_right _ (mem_pinsAt hb e)))
          ⟨z.1, z.2.1⟩
        have hl : (wipe σ (own.map (·.2))).length = σ8.length := by rw [← hw8, wipe_length]
        refine ⟨m', hm, i + 1, H', (I'.unpinned (pins := [])).weak hl (fun j v e => ?_), T.keep _ _ _ st7 fun b hb o e => (pin' b hb o e).1, fun b hb => ?_, w'⟩
        · rw [← hw8] at e
          exact (wipe_some e).1
        · obtain ⟨o, e, _⟩ := T.obj _ _ st7 b hb
          exact (pin' b hb o e).2
      cases b with
      | false =>
        simp only [Bool.false_eq_true, if_false] at q9 ⊢
        exact fin I9 q9
      | true =>
        simp only [if_true] at q9 ⊢
        refine wpAny_mono (pe.run _ s9 σ8 H9 _ (I9.wish _) q9) (fun z s10 ⟨yv, H10, I10, r10, acc, hD10, hz10, nx⟩ => ?_) (fun u s' e => ?_)
        · exact app_ok (X := X.blk s3 H3 scope ce fp) I10.unwish hD10 hz10 r10 fun s11 I11 => fin I11 nx
        · have e : notedBy (model X.prog X.w) X.A ce (CompFails (model X.prog X.w) X.A X.xe ce) u s' := e
          cases use <;> exact e
  exact codeAny_compStart_list loop (T.self X.A 0 _ _ _ st4 loop)
/-- name = [..] on one line, the name a local -/
theorem ps_setLcX {W : WX} {i : Nat} {y : Str} {py : Pos} {elt tg iter : Expr} {ifs : List Expr} {scope : Scope} {own : List (Str × Nat)} {pos spos : Pos} {wi : TI} {g : TG} {tt : TT} {te : WX → TE}
    (hs1 : X.stack = X.env :: X.outer) (hf1 : X.env.frame = some X.env.locals) (tk : Takes X W) (hc : X.calm = true) (hN : X.N.Nodup) (hy : X.N[i]? = some y) (hyl : X.env.scope.names.lookup y = some .local)
    (hsw : swapsWith (.ListComp elt [⟨tg, iter, ifs, 0⟩] scope pos) (some (.Name y py)) spos.line X.env = pure true) (hi : PI X tg iter wi) (ok : BlkOk X.N X.env.scope scope own)
    (hg : ∀ (s : Shared) (H : Hp) (C : Addr) (cl : List (Str × Addr)) (fp : List Addr), PG (X.blk s H scope (compEnvC scope cl C X.env) fp) tg g) (ht : ∀ (s : Shared) (H : Hp) (C : Addr) (cl : List (Str × Addr)) (fp : List Addr), PTs (X.blk s H scope (compEnvC scope cl C X.env) fp) ifs tt)
    (he : ∀ (s : Shared) (H : Hp) (C : Addr) (cl : List (Str × Addr)) (fp : List Addr) (W' : WX) (xe : Value → Shared → Prop), Takes ((X.blk s H scope (compEnvC scope cl C X.env) fp).wish xe) W' → PE ((X.blk s H scope (compEnvC scope cl C X.env) fp).wish xe) elt (te W')) (hs : ∀ x, foldedSetIterable iter X.env x = pure x := by intro _; rfl) :
    PS X (.Assign [.Name y py] (.ListComp elt [⟨tg, iter, ifs, 0⟩] scope pos) spos) (tAsg (tLcX wi g tt te (own.map (·.2)) W) (gName i)) := by
  refine ⟨fun pins s σ H D I h => ?_⟩
  rw [exec_Assign_Name_used _ _ _ _ hsw]
  refine wpAny_bind (wpAny_standAt (wpAny_bind ?_))
  show wpAny _ X.A (do let _ ← comprehension (.ListComp elt [⟨tg, iter, ifs, 0⟩] scope pos) scope X.env (firstIterPos [⟨tg, iter, ifs, 0⟩] pos) (newList []) false (eval iter X.env) (some (assign (.Name y py) X.env))) _ _ s
  have h : tLcX wi g tt te (own.map (·.2)) W σ H (fun x H1 => gName i x σ H1 D.nx) := h
  refine wpAny_bind (thn (lc_coreX (Qf := fun _ s' => SP X pins D .next s') hs1 hf1 tk hc hN I hi ok hg ht he hs h fun L ce s' m H' I' q hn f => ?_) fun _ s' hq => wpAny_pure (wpAny_pure hq))
  show wpAny _ _ (assign (.Name y py) X.env (.ref L)) _ _ _
  refine wpAny_assign_Name (store_ok2 (v := V.ref L) I' hN hy (.inl hyl) rfl (fun s2 I2 ⟨a, sb, ha⟩ => ?_) (.inr hyl))
  obtain ⟨f0, f1, f2, f3, f4, f5⟩ := f
  have haC : ce.locals ≠ a := by
    rcases ha with z | z
    · rw [z]; exact f1
    · exact fun e => f4 y a z e.symm
  refine ⟨m, hn.sameBut sb haC, fun h3 sb3 => ?_⟩
  exact ⟨_, H', I2.turned (t' := s2.toks) (fun b o hb e => (sb3.2 b hb).trans e) f0 f1 f3 f4 f5, q⟩
end
end L2
namespace MM
open PySem L2
/-- as lcL, but what the element lets out leaves -/
def lcX (src : Src) (g : GM) (te : EM) (l : Loc) : Nat → Nat → HM → List Val → Res (List Val)
  | 0, _, h, acc => if src.ok h = true then .ok acc h else .bad
  | n + 1, i, h, acc => match src.get i h with
    | none => .bad
    | some x => match g x l with
      | none => .bad
      | some l1 => match te l1 h with
        | .ok y h2 => if acc.length < sizeLine then lcX src g te l n (i + 1) h2 (acc ++ [y]) else .bad
        | .exc c h2 => .exc c h2
        | .bad => .bad
def eLcX (mi : IM) (g : GM) (te : EM) (vs : List Nat) : EM := fun l h => (mi l h).bind fun src h1 => (lcX src g te (wipeL l vs) src.len 0 h1 []).bind frozen
section
variable {X : Cx} {G : Glob} {W : WX} {r r1 r2 : Ad} {H H1 H2 : Hp} {h h1 : HM} {l : Loc} {s : L2.St}
def PostCX (G : Glob) (r1 : Ad) (H1 : Hp) (D : Addr) (Q : Hp → Prop) (Wf : Value → Hp → Prop) : Res (List Val) → Prop
  | .ok xs h2 => ∀ r2 H2 us, Hid G r1 H1 D r2 h2 H2 xs us → Q H2
  | .exc c h2 => ∀ r2 H2 xs us, Hid G r1 H1 D r2 h2 H2 xs us → ∀ C, G.exc c = some C → Wf (.ref C) H2
  | .bad => False
theorem post_frozenX {D : Addr} {Q : VK} {x : Res (List Val)} (q1 : Rel G r1 h1 H1) (nD : H1 D = none) (p : Post G W r1 H1 s (VR G) Q (x.bind frozen)) : PostCX G r1 H1 D (Q (.ref D)) (fun C H => W C none s H) x := by
  cases x with
  | ok xs h2 =>
    intro r2 H2 us ⟨ex, hh, hk, q, at_, z, lkk, lks⟩
    have mD : D ∈ r2.hid := by rw [hh]; exact List.mem_cons_self
    exact p (r2.show_ r1.hid) H2 _ (ext_made q1 nD ex hh hk lkk lks) (q.show_ hh) (.lst at_ ⟨(q.hid D mD).1, (q1.new nD).2⟩ (z.ex (ex_show hh)))
  | exc c h2 =>
    intro r2 H2 xs us ⟨ex, hh, hk, q, at_, z, lkk, lks⟩ C hC
    exact p (r2.show_ r1.hid) H2 C (ext_made q1 nD ex hh hk lkk lks) (q.show_ hh) hC
  | bad => exact p
theorem lc_loopX {src : Src} {J : It} {g : GM} {te : EM} {own ws : List Nat} {D : Addr} {Q : Hp → Prop}
    (q1 : Rel G r1 h1 H1) (z1 : SrcR G r1 H1 src J) (hl : LR G r1 H1 l s) (hv : ∀ v ∈ ws, v ∈ own) (nD : H1 D = none)
    (p : PostCX G r1 H1 D Q (fun C H => W C none s H) (lcX src g te (wipeL l own) src.len 0 h1 [])) :
    ∃ Wv : Nat → Nat → Hp → Prop, (∃ m, Wv 0 m (upd H1 D (.lst []))) ∧ ∀ i m H, Wv i m H →
      (J.stop i H ∧ Q H) ∨ (J.go i H ∧ ∃ Nx : Hp → Prop, (∀ H', Nx H' → ∃ m', m' < m ∧ Wv (i + 1) m' H') ∧ ∀ x H', J.yld i H x H' → tG G ws g x (wipe s own) H' fun σ2 H2 => wipe σ2 own = wipe s own ∧ tT G W0 tYesM σ2 H2 fun b H3 =>
        if b = true then tE G (fun cls d _ H' => W cls d s H') te σ2 H3 fun y H4 => ∃ acc, H4 D = some (.lst acc) ∧ acc.length < sizeLine ∧ Nx (upd H4 D (.lst (acc ++ [y]))) else Nx H3) := by
  have hlw := hl.wipe own
  refine ⟨fun i m H => ∃ r' h' acc us, Ex (r1.hide D) (upd H1 D (.lst [])) r' H ∧ r'.hid = D :: r1.hid ∧ (∀ a ∈ r1.hid, H a = H1 a) ∧ (r'.lk = r1.lk ∧ ∀ a ∈ r1.lk, H a = H1 a) ∧ Rel G r' h' H ∧ H D = some (.lst us) ∧ VRs G r' H acc us ∧ i + m = src.len ∧
    PostCX G r1 H1 D Q (fun C H => W C none s H) (lcX src g te (wipeL l own) m i h' acc), ⟨src.len, r1.hide D, h1, [], [], Ext.refl.toEx, rfl, fun a ha => ?_, ⟨rfl, fun a ha => ?_⟩, q1.hide nD, upd_same, .nil, Nat.zero_add _, p⟩, ?_⟩
  · exact upd_ne fun e => (q1.hid a ha).2 (by rw [e]; exact nD)
  · exact upd_ne fun e => q1.lk_there ha (by rw [e]; exact nD)
  rintro i m H ⟨r', h', acc, us, ex, hh, hk, ⟨lkk, lks⟩, q', hD, za, him, p'⟩
  have mD : D ∈ r'.hid := by rw [hh]; exact List.mem_cons_self
  obtain ⟨zg, zs⟩ := z1 _ H h' ((ex_hide nD).trans ex) lks q'
  cases m with
  | zero =>
    left
    simp only [lcX] at p'
    split at p'
    · rename_i ho
      have : i = src.len := by omega
      subst this
      exact ⟨zs ho, p' _ H us ⟨ex, hh, hk, q', hD, za, lkk, lks⟩⟩
    · exact p'.elim
  | succ m =>
    right
    simp only [lcX] at p'
    cases eg : src.get i h' with
    | none => rw [eg] at p'; exact p'.elim
    | some x =>
      rw [eg] at p'
      obtain ⟨go, yl⟩ := zg i x (by omega) eg
      refine ⟨go, fun H' => ∃ r' h' acc us, Ex (r1.hide D) (upd H1 D (.lst [])) r' H' ∧ r'.hid = D :: r1.hid ∧ (∀ a ∈ r1.hid, H' a = H1 a) ∧ (r'.lk = r1.lk ∧ ∀ a ∈ r1.lk, H' a = H1 a) ∧ Rel G r' h' H' ∧ H' D = some (.lst us) ∧ VRs G r' H' acc us ∧ i + 1 + m = src.len ∧
        PostCX G r1 H1 D Q (fun C H => W C none s H) (lcX src g te (wipeL l own) m (i + 1) h' acc), fun H' n => ⟨m, Nat.lt_succ_self _, n⟩, fun v H3 y => ?_⟩
      obtain ⟨e3, q3, z3⟩ := yl v H3 y
      have hD3 : H3 D = some (.lst us) := (e3.hk D mD).trans hD
      have hk3 : ∀ a ∈ r1.hid, H3 a = H1 a := fun a ha => (e3.hk a (by rw [hh]; exact List.mem_cons_of_mem _ ha)).trans (hk a ha)
      have lks3 : ∀ a ∈ r1.lk, H3 a = H1 a := fun a ha => (e3.lks a (by rw [lkk]; exact ha)).trans (lks a ha)
      have exa : Ex r1 H1 r' H3 := ((ex_hide nD).trans ex).trans e3.toEx
      refine ⟨r', wipeL l own, x, hlw.ex exa, z3, ?_⟩
      simp only at p'
      cases ex1 : g x (wipeL l own) with
      | none => rw [ex1] at p'; exact p'.elim
      | some l1 =>
        rw [ex1] at p'
        simp only at p'
        refine fun σ2 hl2 ag => ⟨(wipe_agree ag hv).trans wipe_wipe, r', h', l1, q3, hl2, ?_⟩
        intro r4 H4 b' e4 q4 eb
        have eb : b' = true := eb
        subst eb
        simp only [if_true]
        have hh4 : r4.hid = D :: r1.hid := e4.hid.trans hh
        have mD4 : D ∈ r4.hid := by rw [hh4]; exact List.mem_cons_self
        have hD4 : H4 D = some (.lst us) := (e4.hk D mD).trans hD3
        have hk4 : ∀ a ∈ r1.hid, H4 a = H1 a := fun a ha => (e4.hk a (by rw [hh]; exact List.mem_cons_of_mem _ ha)).trans (hk3 a ha)
        have lkk4 : r4.lk = r1.lk := e4.lkk.trans lkk
        have lks4 : ∀ a ∈ r1.lk, H4 a = H1 a := fun a ha => (e4.lks a (by rw [lkk]; exact ha)).trans (lks3 a ha)
        have ex4 := (ex.trans e3.toEx).trans e4.toEx
        have za4 := (za.ext e3).ext e4
        refine ⟨r4, h', l1, q4, hl2.ext e4, ?_⟩
        cases ee : te l1 h' with
        | bad => rw [ee] at p'; exact p'.elim
        | exc c hc =>
          rw [ee] at p'
          intro r5 H5 C e5 q5 hC
          have hh5 : r5.hid = D :: r1.hid := e5.hid.trans hh4
          exact p' r5 H5 acc us ⟨ex4.trans e5.toEx, hh5, fun a ha => (e5.hk a (by rw [hh4]; exact List.mem_cons_of_mem _ ha)).trans (hk4 a ha), q5, (e5.hk D mD4).trans hD4, za4.ext e5, e5.lkk.trans lkk4, fun a ha => (e5.lks a (by rw [lkk4]; exact ha)).trans (lks4 a ha)⟩ C hC
        | ok y5 h5 =>
          rw [ee] at p'
          simp only at p'
          split at p'
          · rename_i hz
            intro r5 H5 u e5 q5 zu
            have hh5 : r5.hid = D :: r1.hid := e5.hid.trans hh4
            have mD5 : D ∈ r5.hid := by rw [hh5]; exact List.mem_cons_self
            have hD5 : H5 D = some (.lst us) := (e5.hk D mD4).trans hD4
            have za5 := za4.ext e5
            have xg : Ex r5 H5 r5 (upd H5 D (.lst (us ++ [u]))) := ex_grow mD5
            refine ⟨us, hD5, by rw [← za5.length]; exact hz, r5, h5, acc ++ [y5], us ++ [u], (ex4.trans e5.toEx).trans xg, hh5, fun a ha => ?_, ⟨e5.lkk.trans lkk4, fun a ha => ?_⟩, q5.grow mD5, upd_same, (za5.append (.cons zu .nil)).ex xg, by omega, p'⟩
            · have hne : a ≠ D := fun e => (q1.hid a ha).2 (by rw [e]; exact nD)
              rw [upd_ne hne]
              exact (e5.hk a (by rw [hh4]; exact List.mem_cons_of_mem _ ha)).trans (hk4 a ha)
            · have hne2 : a ≠ D := fun e => q1.lk_there ha (by rw [e]; exact nD)
              rw [upd_ne hne2]
              exact (e5.lks a (by rw [lkk4]; exact ha)).trans (lks4 a ha)
          · exact p'.elim
variable {tg iter elt : Expr} {scope : Scope} {own : List (Str × Nat)} {pos : Pos} {mi : IM} {g : GM} {te : EM} {ws : List Nat}
theorem lc_readX {Q : VK} (hv : ∀ v ∈ ws, v ∈ own.map (·.2)) (q : Rel G r h H) (hl : LR G r H l s) (p : Post G W r H s (VR G) Q (eLcX mi g te (own.map (·.2)) l h)) :
    tLcX (tI G W mi) (tG G ws g) (tT G W0 tYesM) (fun W' => tE G W' te) (own.map (·.2)) W s H Q :=
  ⟨r, h, l, q, hl, (Post.bind p).imp fun J H1 ⟨r1, h1, src, e1, q1, z1, p1⟩ => fun D nD => lc_loopX q1 z1 (hl.ext e1) hv nD (post_frozenX q1 nD p1)⟩
/-- name = [..] on one line, the name a local -/
theorem ms_setLcX {i : Nat} {y : Str} {py spos : Pos} (hs1 : X.stack = X.env :: X.outer) (hf1 : X.env.frame = some X.env.locals) (tk : Takes X W) (hc : X.calm = true) (hN : X.N.Nodup) (hy : X.N[i]? = some y) (hyl : X.env.scope.names.lookup y = some .local)
    (hsw : swapsWith (.ListComp elt [⟨tg, iter, [], 0⟩] scope pos) (some (.Name y py)) spos.line X.env = pure true) (hi : MI X G W tg iter mi) (ok : BlkOk X.N X.env.scope scope own)
    (hg : ∀ (s : Shared) (H : Hp) (C : Addr) (cl : List (Str × Addr)) (fp : List Addr), MG (X.blk s H scope (compEnvC scope cl C X.env) fp) G ws tg g)
    (he : ∀ (s : Shared) (H : Hp) (C : Addr) (cl : List (Str × Addr)) (fp : List Addr) (W' : WX) (xe : Value → Shared → Prop), Takes ((X.blk s H scope (compEnvC scope cl C X.env) fp).wish xe) W' → ME ((X.blk s H scope (compEnvC scope cl C X.env) fp).wish xe) G W' elt te) (hv : ∀ v ∈ ws, v ∈ own.map (·.2)) (hs : ∀ x, foldedSetIterable iter X.env x = pure x := by intro _; rfl) :
    MS X G W (.Assign [.Name y py] (.ListComp elt [⟨tg, iter, [], 0⟩] scope pos) spos) (sAsg (eLcX mi g te (own.map (·.2))) (gNm i)) :=
  ⟨fun pins s σ H D I ⟨r, h, l, q, hl, p⟩ => (ps_setLcX hs1 hf1 tk hc hN hy hyl hsw hi ok hg (fun _ _ _ _ _ => mts_nil) he hs).run pins s σ H D I (lc_readX hv q hl ((Post.thn hl p).imp fun v H1 ⟨r1, h1, x1, e1, q1, z1, p1⟩ => p1 r1 H1 _ Ext.refl q1 ((hl.ext e1).set z1)))⟩
end
end MM
set_option exponentiation.threshold 1000
namespace MM
open PySem L2 PySem.W
noncomputable section
def m_read_k20 : FM := mF 9 (sSeq (sAsg (eMake 2 m_Reader_init (aCons (eVar 0) (aNil))) (gNm 1))
  (sSeq (sAsg (eCall m_mark_of (aCons (eMeth 2 m_Reader_until (eVar 1) (aCons (eC (.str ";")) (aNil))) (aNil))) (gNm 2))
  (sSeq (sAsg (eMeth 2 m_Reader_until (eVar 1) (aCons (eC (.str ";")) (aNil))) (gNm 3))
  (sSeq (sAsg (eLcX (iVal (eCall m_listed (aCons (eMeth 2 m_Reader_until (eVar 1) (aCons (eC (.str ";")) (aNil))) (aNil)))) (gNm 5) (eCall m_mark_of (aCons (eVar 5) (aNil))) [5]) (gNm 4))
  (sSeq (sAsg (eLcX (iVal (eCall m_listed (aCons (eMeth 2 m_Reader_until (eVar 1) (aCons (eC (.str ";")) (aNil))) (aNil)))) (gNm 5) (eCall m_named (aCons (eVar 5) (aNil))) [5]) (gNm 6))
  (sSeq (sAsg (eCall m_texts_at (aCons (eVar 1) (aNil))) (gNm 7))
  (sSeq (sAsg (eDisp mkTup (aCons (eVar 2) (aCons (eVar 3) (aCons (eBi bTuple (aCons (eVar 4) (aNil))) (aCons (eBi bTuple (aCons (eVar 6) (aNil))) (aCons (eBi bTuple (aCons (eVar 7) (aNil))) (aNil))))))) (gNm 8))
  (sSeq (sIf (tOrM (tOf (e2 vNe (eFld 2 1 (eVar 1)) (eBi bLen (aCons (eVar 0) (aNil))))) (tOrM (tNotM (tTru (eCall m_is_file (aCons (eVar 8) (aNil))))) (tOf (e2 vNe (eCall m_written (aCons (eVar 8) (aNil))) (eVar 0))))) (sRaise 4) (sNil))
  (sRet (eVar 8))))))))))
@[simp] theorem ev_eLcX {mi : IM} {g : GM} {te : EM} {vs : List Nat} {l : Loc} {h : HM} : eLcX mi g te vs l h = (mi l h).bind fun src h1 => (lcX src g te (wipeL l vs) src.len 0 h1 []).bind frozen := rfl
def mapX {α β : Type} (f : α → PR β) : List α → PR (List β)
  | [] => some (some [])
  | x :: xs => pb (f x) fun y => pb (mapX f xs) fun ys => some (some (y :: ys))
theorem pb_some {α β : Type} {x : PR α} {f : α → PR β} {r : β} (h : pb x f = some (some r)) : ∃ a, x = some (some a) ∧ f a = some (some r) := by
  cases x with
  | none => cases h
  | some o => cases o with
    | none => cases h
    | some a => exact ⟨a, rfl, h⟩
theorem mapX_R {α β : Type} {f : α → PR β} : ∀ {xs : List α} {ys : List β}, mapX f xs = some (some ys) → mapR f xs = some ys
  | [], ys, e => by cases e; rfl
  | x :: xs, ys, e => by
    unfold mapX at e
    obtain ⟨y, e1, e⟩ := pb_some e
    obtain ⟨zs, e2, e⟩ := pb_some e
    cases e
    have := mapX_R e2
    unfold mapR
    rw [e1, this]
def toXL {β : Type} (e : List β → List Val) (H : HM) : Option (List β) → Res (List Val)
  | none => .exc 4 H
  | some ys => .ok (e ys) H
theorem lc_mapX {α β : Type} {f : α → PR β} {xs : List α} {r : Option (List β)} {e : α → Val} {e2 : β → Val} {g : GM} {te : EM} {l : Loc} {h : HM} (hr : mapX f xs = some r) (hf : ∀ x ∈ xs, ∃ l1, g (e x) l = some l1 ∧ ∀ y, f x = some y → te l1 h = toX e2 h y) (hl : xs.length ≤ sizeLine) :
    lcX (srcItems (xs.map e)) g te l (srcItems (xs.map e)).len 0 h [] = toXL (fun ys => ys.map e2) h r := by
  have gen : ∀ (n i : Nat) (acc : List Val) (r : Option (List β)), i + n = xs.length → acc.length = i → mapX f (xs.drop i) = some r → lcX (srcItems (xs.map e)) g te l n i h acc = toXL (fun ys => acc ++ ys.map e2) h r := by
    intro n
    induction n with
    | zero =>
      intro i acc r hi ha hr
      have : xs.drop i = [] := List.drop_eq_nil_of_le (by omega)
      rw [this] at hr
      cases hr
      simp [lcX, srcItems, toXL]
    | succ n ih =>
      intro i acc r hi ha hr
      have hlt : i < xs.length := by omega
      have hg : (srcItems (xs.map e)).get i h = some (e xs[i]) := by simp [srcItems, hlt]
      have hd : xs.drop i = xs[i] :: xs.drop (i + 1) := List.drop_eq_getElem_cons hlt
      obtain ⟨l1, a, b⟩ := hf xs[i] (List.getElem_mem hlt)
      rw [hd] at hr
      unfold mapX at hr
      cases e1 : f xs[i] with
      | none => rw [e1] at hr; cases hr
      | some o =>
        have te1 := b o e1
        cases o with
        | none =>
          rw [e1] at hr
          cases hr
          simp only [lcX, hg, a, te1, toX_no, toXL]
        | some y =>
          rw [e1] at hr
          simp only [pb_ok] at hr
          simp only [lcX, hg, a, te1, toX_ok]
          rw [if_pos (by omega)]
          cases e2 : mapX f (xs.drop (i + 1)) with
          | none => rw [e2] at hr; cases hr
          | some o2 =>
            rw [ih (i + 1) _ o2 (by omega) (by simp [ha]) e2]
            rw [e2] at hr
            cases o2 with
            | none => cases hr; rfl
            | some ys =>
              simp only [pb_ok, Option.some.injEq] at hr
              subst hr
              simp [toXL]
  have := gen xs.length 0 [] r (by omega) rfl (by rw [List.drop_zero]; exact hr)
  have e3 : (srcItems (xs.map e)).len = xs.length := by simp [srcItems]
  rw [e3, this]
  cases r <;> simp [toXL]
def parseX (x : List Nat) : PR (Fl × List Nat) := match cutC 59 x with
  | none => some none
  | some (a, r1) => pb (markR a) fun id => match cutC 59 r1 with
    | none => some none
    | some (fi, r2) => match cutC 59 r2 with
      | none => some none
      | some (kn, r3) => pb (mapX markR (listL kn)) fun known => match cutC 59 r3 with
          | none => some none
          | some (nm, r4) => pb (mapX nameR (listL nm)) fun names => pb (textsR (r4.length + 1) r4) fun q => some (some (⟨id, sg fi, known, names, q.1⟩, q.2))
def readX (x : List Nat) : PR Fl := pb (parseX x) fun q => if q.2 = [] ∧ goodB q.1 = true ∧ wrL q.1 = x then some (some q.1) else some none
theorem rdX_known {kn : List Nat} {r : Option (List Mk)} {a0 a1 a2 a3 a4 a6 a7 a8 : Option Val} {H : HM} (hl : kn.length ≤ 900000) (k1 : mapX markR (listL kn) = some r) : lcX (srcItems ((listL kn).map fun x => .str (sg x))) (gNm 5) (eCall m_mark_of (aCons (eVar 5) aNil)) (wipeL [a0, a1, a2, a3, a4, none, a6, a7, a8] [5]) (srcItems ((listL kn).map fun x => .str (sg x))).len 0 H [] = toXL (fun ys => ys.map eM) H r := by
  refine lc_mapX (e := fun x => .str (sg x)) k1 (fun x hx => ⟨_, rfl, fun y hy => ?_⟩) (by have := listL_len (l := kn); rw [sizeLine_eq]; omega)
  show (eCall m_mark_of (aCons (eVar 5) aNil)) [a0, a1, a2, a3, a4, some (.str (sg x)), a6, a7, a8] H = _
  have := (listL_mem hx).1
  simp only [ev_eCall, ev_aCons, ev_aNil, ev_VarS, ev_Var0, Res.bind_ok]
  rw [at_markOf (by omega) hy]
theorem rdX_names {kn : List Nat} {r : Option (List Wd)} {a0 a1 a2 a3 a4 a5 a6 a7 a8 : Option Val} {H : HM} (hl : kn.length ≤ 900000) (k1 : mapX nameR (listL kn) = some r) : lcX (srcItems ((listL kn).map fun x => .str (sg x))) (gNm 5) (eCall m_named (aCons (eVar 5) aNil)) (wipeL [a0, a1, a2, a3, a4, a5, a6, a7, a8] [5]) (srcItems ((listL kn).map fun x => .str (sg x))).len 0 H [] = toXL (fun ys => ys.map eW) H r := by
  refine lc_mapX (e := fun x => .str (sg x)) k1 (fun x hx => ⟨_, rfl, fun y hy => ?_⟩) (by have := listL_len (l := kn); rw [sizeLine_eq]; omega)
  show (eCall m_named (aCons (eVar 5) aNil)) [a0, a1, a2, a3, a4, some (.str (sg x)), a6, a7, a8] H = _
  have := (listL_mem hx).1
  simp only [ev_eCall, ev_aCons, ev_aNil, ev_VarS, ev_Var0, Res.bind_ok]
  rw [at_named (by omega) hy]
theorem at_readX {x : List Nat} {r : Option Fl} {h : HM} (hx : x.length ≤ 900) (ho : ∀ c ∈ x, c < 1114112) (e : readX x = some r) : ∃ g, m_read_k20 [.str (sg x)] h = toX eT (h ++ g) r := by
  have mkr := fun l => make_rdr (x := x) (h := h) (l := l)
  unfold m_read_k20 mF
  rw [eq59]
  rw [show List.map some [Val.str (sg x)] ++ List.replicate (9 - [Val.str (sg x)].length) none = [some (.str (sg x)), none, none, none, none, none, none, none, none] from rfl]
  have un := fun p (hp : p ≤ x.length) => until_g (h := h) (g := []) (x := x) (c := 59) (p := p) hp (by omega)
  have u1 := un 0 (Nat.zero_le _)
  rw [List.drop_zero] at u1
  simp only [ev_sSeq, ev_sAsg, mkr, Res.thn_ok, ev_gNm0, ev_gNmS, Option.map_some, ev_eCall, ev_aCons, ev_aNil, ev_eMeth, ev_Var0, ev_VarS, Res.bind_ok, rdr_ins, if_true, ev_C, u1]
  have e' := e
  unfold readX parseX at e
  cases c1 : cutC 59 x with
  | none => rw [c1] at e; cases e; exact ⟨_, rfl⟩
  | some q1 =>
    obtain ⟨a, r1⟩ := q1
    rw [c1] at e
    dsimp only at e
    have c1' : cutC 59 (x.drop 0) = some (a, r1) := by rw [List.drop_zero]; exact c1
    obtain ⟨a1, a2, a3, a4⟩ := drop_cut c1' (Nat.zero_le _)
    have o1 : ∀ c ∈ r1, c < 1114112 := fun c hc => ho c ((cutC_mem c1).2.1 c hc)
    simp only [Res.bind_ok]
    cases m1 : markR a with
    | none => rw [m1] at e; cases e
    | some om =>
      rw [m1] at e
      rw [at_markOf (by omega) m1]
      cases om with
      | none => cases e; exact ⟨_, rfl⟩
      | some id =>
        simp only [pb_ok] at e
        have u2 := un _ a2
        rw [a1] at u2
        simp only [toX_ok, Res.thn_ok, ev_gNm0, ev_gNmS, Option.map_some, ev_sSeq, ev_sAsg, ev_eMeth, ev_Var0, ev_VarS, Res.bind_ok, rdr_ins, if_true, ev_aCons, ev_aNil, ev_C, u2]
        cases c2 : cutC 59 r1 with
        | none => rw [c2] at e; cases e; exact ⟨_, rfl⟩
        | some q2 =>
          obtain ⟨fi, r2⟩ := q2
          rw [c2] at e
          dsimp only at e
          have c2' : cutC 59 (x.drop (0 + a.length + 1)) = some (fi, r2) := by rw [a1]; exact c2
          obtain ⟨b1, b2, b3, b4⟩ := drop_cut c2' a2
          have o2 : ∀ c ∈ r2, c < 1114112 := fun c hc => o1 c ((cutC_mem c2).2.1 c hc)
          have u3 := un _ b2
          rw [b1] at u3
          simp only [Res.thn_ok, ev_gNm0, ev_gNmS, Option.map_some, ev_sSeq, ev_sAsg, ev_eLcX, ev_iVal, ev_eCall, ev_eMeth, ev_Var0, ev_VarS, Res.bind_ok, rdr_ins, if_true, ev_aCons, ev_aNil, ev_C, u3]
          cases c3 : cutC 59 r2 with
          | none => rw [c3] at e; cases e; exact ⟨_, rfl⟩
          | some q3 =>
            obtain ⟨kn, r3⟩ := q3
            rw [c3] at e
            dsimp only at e
            have c3' : cutC 59 (x.drop (0 + a.length + 1 + fi.length + 1)) = some (kn, r3) := by rw [b1]; exact c3
            obtain ⟨d1, d2, d3, d4⟩ := drop_cut c3' b2
            have o3 : ∀ c ∈ r3, c < 1114112 := fun c hc => o2 c ((cutC_mem c3).2.1 c hc)
            have okn : ∀ c ∈ kn, c < 1114112 := fun c hc => o2 c ((cutC_mem c3).1 c hc)
            have ls1 := fun H => at_listed (l := kn) (H := H) (by omega) (strOk_sg okn)
            cases k1 : mapX markR (listL kn) with
            | none => rw [k1] at e; cases e
            | some ok1 =>
              have lk := fun a0 a1 a2 a3 a4 a6 a7 a8 H => rdX_known (a0 := a0) (a1 := a1) (a2 := a2) (a3 := a3) (a4 := a4) (a6 := a6) (a7 := a7) (a8 := a8) (H := H) (by omega) k1
              cases ok1 with
              | none =>
                rw [k1] at e
                cases e
                simp only [Res.bind_ok, ls1, lst_src, lk, toXL]
                exact ⟨_, rfl⟩
              | some known =>
                rw [k1] at e
                simp only [pb_ok] at e
                have u4 := un _ d2
                rw [d1] at u4
                simp only [Res.bind_ok, ls1, lst_src, lk, toXL, ev_frozen, Res.thn_ok, ev_gNm0, ev_gNmS, Option.map_some, ev_sSeq, ev_sAsg, ev_eLcX, ev_iVal, ev_eCall, ev_eMeth, ev_Var0, ev_VarS, rdr_ins, if_true, ev_aCons, ev_aNil, ev_C, u4]
                cases c4 : cutC 59 r3 with
                | none => rw [c4] at e; cases e; exact ⟨_, rfl⟩
                | some q4 =>
                  obtain ⟨nm, r4⟩ := q4
                  rw [c4] at e
                  dsimp only at e
                  have c4' : cutC 59 (x.drop (0 + a.length + 1 + fi.length + 1 + kn.length + 1)) = some (nm, r4) := by rw [d1]; exact c4
                  obtain ⟨f1, f2, f3, f4⟩ := drop_cut c4' d2
                  have onm : ∀ c ∈ nm, c < 1114112 := fun c hc => o3 c ((cutC_mem c4).1 c hc)
                  have ls2 := fun H => at_listed (l := nm) (H := H) (by omega) (strOk_sg onm)
                  cases n1 : mapX nameR (listL nm) with
                  | none => rw [n1] at e; cases e
                  | some ok2 =>
                    have ln := fun a0 a1 a2 a3 a4 a5 a6 a7 a8 H => rdX_names (a0 := a0) (a1 := a1) (a2 := a2) (a3 := a3) (a4 := a4) (a5 := a5) (a6 := a6) (a7 := a7) (a8 := a8) (H := H) (by omega) n1
                    cases ok2 with
                    | none =>
                      rw [n1] at e
                      cases e
                      simp only [Res.bind_ok, ls2, lst_src, ln, toXL]
                      exact ⟨_, rfl⟩
                    | some names =>
                      rw [n1] at e
                      simp only [pb_ok] at e
                      simp only [Res.bind_ok, ls2, lst_src, ln, toXL, ev_frozen, Res.thn_ok, ev_gNm0, ev_gNmS, Option.map_some, ev_sSeq, ev_sAsg, ev_eCall, ev_Var0, ev_VarS, ev_aCons, ev_aNil]
                      cases t1 : textsR (r4.length + 1) r4 with
                      | none => rw [t1] at e; cases e
                      | some ot =>
                        have t1' : textsR ((x.drop (0 + a.length + 1 + fi.length + 1 + kn.length + 1 + nm.length + 1)).length + 1) (x.drop (0 + a.length + 1 + fi.length + 1 + kn.length + 1 + nm.length + 1)) = some ot := by rw [f1]; exact t1
                        have ta := at_textsAt (h := h) (by omega) ho f2 t1'
                        cases ot with
                        | none =>
                          rw [t1] at e
                          cases e
                          obtain ⟨g, ta⟩ := ta
                          rw [ta]
                          exact ⟨g, rfl⟩
                        | some qt =>
                          obtain ⟨ts, r5⟩ := qt
                          dsimp only at ta
                          obtain ⟨q, ta, tq1, tq2⟩ := ta
                          have k1r := mapX_R k1
                          have n1r := mapX_R n1
                          have hp : parseR x = some (some (⟨id, sg fi, known, names, ts⟩, r5)) := by
                            unfold parseR
                            rw [c1]; dsimp only
                            rw [m1]; simp only [pb_ok]
                            rw [c2]; dsimp only
                            rw [c3]; dsimp only
                            rw [k1r]; dsimp only
                            rw [c4]; dsimp only
                            rw [n1r]; dsimp only
                            rw [t1]; rfl
                          have hpX : parseX x = some (some (⟨id, sg fi, known, names, ts⟩, r5)) := by
                            unfold parseX
                            rw [c1]; dsimp only
                            rw [m1]; simp only [pb_ok]
                            rw [c2]; dsimp only
                            rw [c3]; dsimp only
                            rw [k1]; simp only [pb_ok]
                            rw [c4]; dsimp only
                            rw [n1]; simp only [pb_ok]
                            rw [t1]; rfl
                          obtain ⟨hw, w1, w2, w3⟩ := parse_sm hx hp
                          generalize hf : (⟨id, sg fi, known, names, ts⟩ : Fl) = f at hp hpX hw w1 w2 w3
                          have okf : OkF f := ⟨fun c hc => ho c (w1 c hc), fun p hp c hc => ho c (w2 p hp c hc), fun p hp c hc => ho c (w3 p hp c hc)⟩
                          have bt1 : ∀ H, bTuple [.lst (known.map eM)] H = .ok (.tup (known.map eM)) H := fun H => rfl
                          have bt2 : ∀ H, bTuple [.lst (names.map eW)] H = .ok (.tup (names.map eW)) H := fun H => rfl
                          have sq : seqL (.ref (h.length + 1)) (h ++ [Rdr x q, .lst (ts.map eW)]) = some (ts.map eW) := by simp [seqL]
                          have bt3 : bTuple [.ref (h.length + 1)] (h ++ [Rdr x q, .lst (ts.map eW)]) = .ok (.tup (ts.map eW)) (h ++ [Rdr x q, .lst (ts.map eW)]) := by simp only [bTuple, sq]
                          have ef : Val.tup [eM id, .str (sg fi), .tup (known.map eM), .tup (names.map eW), .tup (ts.map eW)] = eT f := by rw [← hf]; rfl
                          have mk5 : ∀ H, mkTup [eM id, .str (sg fi), .tup (known.map eM), .tup (names.map eW), .tup (ts.map eW)] H = .ok (eT f) H := fun H => by rw [ev_mkTup (by simp), ef]
                          have lx : ∀ H, bLen [.str (sg x)] H = .ok (.int (x.length : Nat)) H := fun H => lenSg (by omega)
                          have isf := fun H => isFile_any (f := f) (h := H) hw
                          have wrt : ∀ H, m_written [eT f] H = .ok (.str (sg (wrL f))) H := fun H => at_written hw rfl
                          have new : ∀ H, vNe (.str (sg (wrL f))) (.str (sg x)) H = .ok (.bl (!decide (wrL f = x))) H := fun H => neSg (wrL_ok okf) ho
                          have neq : decide (((q : Nat) : Int) = ((x.length : Nat) : Int)) = decide (r5 = []) := by
                            rw [decide_eq_decide]
                            rw [← tq1, List.drop_eq_nil_iff]
                            omega
                          have tb : ∀ b H, truV (.bl b) H = .ok b H := fun b H => rfl
                          have er : r = if r5 = [] ∧ goodB f = true ∧ wrL f = x then some f else none := by
                            unfold readX at e'
                            rw [hpX] at e'
                            simp only [pb_ok] at e'
                            split at e'
                            · rename_i hc; rw [if_pos hc]; exact (Option.some.inj e').symm
                            · rename_i hc; rw [if_neg hc]; exact (Option.some.inj e').symm
                          rw [ta]
                          simp only [Res.thn_ok, ev_gNm0, ev_gNmS, Option.map_some, ev_sSeq, ev_sAsg, ev_eDisp, ev_aCons, ev_aNil, ev_Var0, ev_VarS, Res.bind_ok, ev_eBi, bt1, bt2, bt3, mk5, ev_sIf, ev_tOr, ev_tOf, ev_tNot, ev_tTru, ev_e2, ev_eFld, place_g, lx, ev_neI, ev_toB, neq, ev_eCall, isf, tb, wrt, new, ev_sRaise, ev_sNil, ev_sRet]
                          rw [er]
                          refine ⟨[Rdr x q, .lst (ts.map eW)], ?_⟩
                          by_cases h1 : r5 = []
                          · by_cases h2 : goodB f = true
                            · by_cases h3 : wrL f = x
                              · simp [h1, h2, h3]
                              · simp [h1, h2, h3]
                            · simp [h1, h2]
                          · simp [h1]
theorem pb_ne {α β : Type} {x : PR α} {f : α → PR β} (h : x ≠ none) (hf : ∀ a, x = some (some a) → f a ≠ none) : pb x f ≠ none := by
  cases x with
  | none => exact absurd rfl h
  | some o => cases o with
    | none => simp [pb]
    | some a => exact hf a rfl
theorem numR_ne {l : List Nat} (hl : l.length ≤ 570) : numR l ≠ none := by
  unfold numR
  by_cases c : isNum l = true
  · rw [if_pos c, if_pos hl]; simp
  · rw [if_neg c]; simp
theorem markR_ne {l : List Nat} (hl : l.length ≤ 570) : markR l ≠ none := by
  unfold markR
  split
  · rename_i a b e
    have ha := cutAll_len (c := 46) (l := l) (p := a) (by rw [e]; simp)
    have hb := cutAll_len (c := 46) (l := l) (p := b) (by rw [e]; simp)
    exact pb_ne (numR_ne (by omega)) fun _ _ => pb_ne (numR_ne (by omega)) fun _ _ => by simp
  · simp
theorem nameR_ne {l : List Nat} (hl : l.length ≤ 570) : nameR l ≠ none := by
  unfold nameR
  split
  · rename_i a b e
    have ha := cutAll_len (c := 61) (l := l) (p := a) (by rw [e]; simp)
    exact pb_ne (markR_ne (by omega)) fun _ _ => by simp
  · simp
theorem mapX_ne {α β : Type} {f : α → PR β} : ∀ {xs : List α}, (∀ x ∈ xs, f x ≠ none) → mapX f xs ≠ none
  | [], _ => by simp [mapX]
  | x :: xs, h => by
    unfold mapX
    exact pb_ne (h x (by simp)) fun _ _ => pb_ne (mapX_ne fun y hy => h y (by simp [hy])) fun _ _ => by simp
theorem textsR_ne : ∀ (n : Nat) {l : List Nat}, l.length < n → l.length ≤ 570 → textsR n l ≠ none
  | 0, l, h, _ => by omega
  | n + 1, l, h, hl => by
    unfold textsR
    split
    · simp
    · cases c1 : cutC 61 l with
      | none => simp
      | some q =>
        obtain ⟨a, b⟩ := q
        have l1 := (cutC_mem c1).2.2
        refine pb_ne (markR_ne (by omega)) fun m _ => ?_
        cases c2 : cutC 58 b with
        | none => simp
        | some q2 =>
          obtain ⟨c, d⟩ := q2
          have l2 := (cutC_mem c2).2.2
          refine pb_ne (numR_ne (by omega)) fun k _ => ?_
          split
          · simp
          · exact pb_ne (textsR_ne n (by simp; omega) (by simp; omega)) fun _ _ => by simp
theorem parseX_ne {x : List Nat} (hl : x.length ≤ 570) : parseX x ≠ none := by
  unfold parseX
  cases c1 : cutC 59 x with
  | none => simp
  | some q1 =>
    obtain ⟨a, r1⟩ := q1
    have l1 := (cutC_mem c1).2.2
    refine pb_ne (markR_ne (by omega)) fun id _ => ?_
    cases c2 : cutC 59 r1 with
    | none => simp
    | some q2 =>
      obtain ⟨fi, r2⟩ := q2
      have l2 := (cutC_mem c2).2.2
      dsimp only
      cases c3 : cutC 59 r2 with
      | none => simp
      | some q3 =>
        obtain ⟨kn, r3⟩ := q3
        have l3 := (cutC_mem c3).2.2
        refine pb_ne (mapX_ne fun p hp => markR_ne (by have := (listL_mem hp).1; omega)) fun known _ => ?_
        cases c4 : cutC 59 r3 with
        | none => simp
        | some q4 =>
          obtain ⟨nm, r4⟩ := q4
          have l4 := (cutC_mem c4).2.2
          refine pb_ne (mapX_ne fun p hp => nameR_ne (by have := (listL_mem hp).1; omega)) fun names _ => ?_
          exact pb_ne (textsR_ne _ (by omega) (by omega)) fun _ _ => by simp
theorem readX_ne {x : List Nat} (hl : x.length ≤ 570) : ∃ r, readX x = some r := by
  have : readX x ≠ none := by
    unfold readX
    refine pb_ne (parseX_ne hl) fun q _ => ?_
    split <;> simp
  cases e : readX x with
  | none => exact absurd e this
  | some r => exact ⟨r, rfl⟩
/-- what was read -/
theorem readX_some {x : List Nat} {f : Fl} (hx : x.length ≤ 900) (ho : ∀ c ∈ x, c < 1114112) (e : readX x = some (some f)) : Wr f ∧ OkF f ∧ goodB f = true ∧ wrL f = x := by
  unfold readX at e
  obtain ⟨q, e1, e⟩ := pb_some e
  split at e
  · rename_i hc
    cases e
    obtain ⟨h1, h2, h3⟩ := hc
    obtain ⟨g, rest⟩ := q
    have hp : parseR x = some (some (g, rest)) := by
      unfold parseX at e1
      unfold parseR
      cases c1 : cutC 59 x with
      | none => rw [c1] at e1; cases e1
      | some q1 =>
        obtain ⟨a, r1⟩ := q1
        rw [c1] at e1
        dsimp only at e1 ⊢
        obtain ⟨id, m1, e1⟩ := pb_some e1
        rw [m1]
        simp only [pb_ok]
        cases c2 : cutC 59 r1 with
        | none => rw [c2] at e1; cases e1
        | some q2 =>
          obtain ⟨fi, r2⟩ := q2
          rw [c2] at e1
          dsimp only at e1 ⊢
          cases c3 : cutC 59 r2 with
          | none => rw [c3] at e1; cases e1
          | some q3 =>
            obtain ⟨kn, r3⟩ := q3
            rw [c3] at e1
            dsimp only at e1 ⊢
            obtain ⟨known, k1, e1⟩ := pb_some e1
            rw [mapX_R k1]
            dsimp only
            cases c4 : cutC 59 r3 with
            | none => rw [c4] at e1; cases e1
            | some q4 =>
              obtain ⟨nm, r4⟩ := q4
              rw [c4] at e1
              dsimp only at e1 ⊢
              obtain ⟨names, n1, e1⟩ := pb_some e1
              rw [mapX_R n1]
              dsimp only
              exact e1
    obtain ⟨hw, w1, w2, w3⟩ := parse_sm hx hp
    exact ⟨hw, ⟨fun c hc => ho c (w1 c hc), fun p hp c hc => ho c (w2 p hp c hc), fun p hp c hc => ho c (w3 p hp c hc)⟩, h2, h3⟩
  · cases e
end
end MM
namespace MM
open PySem L2 PySem.W
noncomputable section
theorem noIn_noP {x : Val} (h : noP x = true) : noIn x := fun xs e => by
  cases x <;> first | (cases e; done) | (cases e; simpa [noP] using h)
structure Part (x : Val) : Prop where
  tame : tame x = true
  noin : noIn x
theorem Part.of {x : Val} (h : MM.tame x = true) (g : noP x = true) : Part x := ⟨h, noIn_noP g⟩
end
end MM
namespace MM
open PySem L2 PySem.Spec PyProof.Rows
/-- what the clause says to each exception -/
def ExH (G : Glob) (K : PySem.W.Frag) (cv : Value) : Nat → List (Option Bool) → Prop
  | _, [] => True
  | i, none :: bs => ExH G K cv (i + 1) bs
  | i, some b :: bs => (∃ C, G.exc i = some C ∧ PySem.W.exmOne K (.ref C) cv = some b) ∧ ExH G K cv (i + 1) bs
theorem ExH.at_ {G : Glob} {K : PySem.W.Frag} {cv : Value} : ∀ {hs : List (Option Bool)} {i k : Nat} {b : Bool}, ExH G K cv i hs → hs[k]? = some (some b) → ∃ C, G.exc (i + k) = some C ∧ PySem.W.exmOne K (.ref C) cv = some b
  | [], _, _, _, _, e => by cases e
  | none :: hs, i, 0, b, h, e => by cases e
  | none :: hs, i, k + 1, b, h, e => by
    obtain ⟨C, h1, h2⟩ := ExH.at_ (hs := hs) (i := i + 1) (k := k) h e
    exact ⟨C, by rw [show i + (k + 1) = i + 1 + k by omega]; exact h1, h2⟩
  | some _ :: hs, i, 0, b, h, e => by cases e; exact h.1
  | some _ :: hs, i, k + 1, b, h, e => by
    obtain ⟨C, h1, h2⟩ := ExH.at_ (hs := hs) (i := i + 1) (k := k) h.2 e
    exact ⟨C, by rw [show i + (k + 1) = i + 1 + k by omega]; exact h1, h2⟩
end MM
namespace MM
open PySem L2 PySem.Spec PyProof.Rows
/-- rows: of each exception the answers (none: not told); i: the slot that gets them, j: the exception's own -/
def sTryIs (rows : List (Option (List Bool))) (one : Bool) (i j : Nat) (mb : SM) : SM := fun l h => match mb l h with
  | .exc c l' h' => (match rows[c]? with
    | some (some bs) => if j < l'.length then .nx ((l'.set i (some (if one = true then .bl (bs.getD 0 false) else .tup (bs.map .bl)))).set j none) h' else .bad
    | _ => .bad)
  | r => r
/-- what the classes say -/
inductive Kits (K : PySem.W.Frag) (C : Addr) : List Value → List Bool → Prop
  | nil : Kits K C [] []
  | cons {t : Value} {b : Bool} {ts : List Value} {bs : List Bool} : PySem.W.kitOne K (.ref C) t = some b → Kits K C ts bs → Kits K C (t :: ts) (b :: bs)
def ExI (G : Glob) (K : PySem.W.Frag) (cv : Value) (ts : List Value) : Nat → List (Option (List Bool)) → Prop
  | _, [] => True
  | i, none :: bs => ExI G K cv ts (i + 1) bs
  | i, some b :: bs => (∃ C, G.exc i = some C ∧ PySem.W.exmOne K (.ref C) cv = some true ∧ ExcC K C ∧ Kits K C ts b) ∧ ExI G K cv ts (i + 1) bs
theorem ExI.at_ {G : Glob} {K : PySem.W.Frag} {cv : Value} {ts : List Value} : ∀ {hs : List (Option (List Bool))} {i k : Nat} {b : List Bool}, ExI G K cv ts i hs → hs[k]? = some (some b) → ∃ C, G.exc (i + k) = some C ∧ PySem.W.exmOne K (.ref C) cv = some true ∧ ExcC K C ∧ Kits K C ts b
  | [], _, _, _, _, e => by cases e
  | none :: hs, i, 0, b, h, e => by cases e
  | none :: hs, i, k + 1, b, h, e => by
    obtain ⟨C, h1, h2⟩ := ExI.at_ (hs := hs) (i := i + 1) (k := k) h e
    exact ⟨C, by rw [show i + (k + 1) = i + 1 + k by omega]; exact h1, h2⟩
  | some _ :: hs, i, 0, b, h, e => by cases e; exact h.1
  | some _ :: hs, i, k + 1, b, h, e => by
    obtain ⟨C, h1, h2⟩ := ExI.at_ (hs := hs) (i := i + 1) (k := k) h.2 e
    exact ⟨C, by rw [show i + (k + 1) = i + 1 + k by omega]; exact h1, h2⟩
section
variable {X : Cx} {G : Glob} {W : WX} {x n : Str} {cv tv : Value} {ts : List Value} {rows : List (Option (List Bool))} {mb : SM} {body : List Stmt} {e : Expr} {es : List Expr} {np p1 p2 p3 pos pos' pos2 : Pos} {i j : Nat}
/-- isinstance(e, T) in the clause's suite -/
def IsE (X : Cx) (j : Nat) (tv : Value) (e : Expr) : Prop := ∀ (a : Addr) (oe : Obj) (D : Addr) (pn : List (Addr × Obj)) (b : Bool), ExcC X.K D → Zc (.ref D) none oe → (∃ vs, oe.data = .fields vs) → PySem.W.kitOne X.K (.ref D) tv = some b →
  PE (X.suite a ((a, oe) :: pn)) e (fun σ H Q => σ[j]? = some (some (.ref a)) ∧ Q (.bl b) H)
/-- the class a global -/
theorem isE_glob {c : Str} {C : Addr} (hg : Gl X "isinstance") (hm : X.mg "isinstance" = none) (hc : Gl X c) (hmc : X.mg c = some (.ref C)) (hi : X.N[j]? = some n := by rfl)
    (hd0 : (c == ("__debug__" : Str)) = false := by decide)
    (hv : Vis X.env.scope n := by first | exact Or.inl rfl | exact Or.inr (Or.inl rfl) | exact Or.inr (Or.inr rfl)) (hd : (n == ("__debug__" : Str)) = false := by decide) (hcd : (n == ("__classdict__" : Str)) = false := by decide) :
    IsE X j (.ref C) (.Call (.Name "isinstance" p1) [.Name n p2, .Name c p3] [] pos) := fun a oe D pn b hC hz hf k => by
  have hx : PE (X.suite a ((a, oe) :: pn)) (.Name n p2) _ := pe_var (i := j) hi hv hd hcd
  have hy : PE (X.suite a ((a, oe) :: pn)) (.Name c p3) _ := pe_glob (v := .ref C) hc hmc rfl hd0
  refine ⟨fun pins s σ H Q I h => (pe_callB (call_isE hC hz hf) hg hm PyProof.Rows.boot_isinstance (pa_cons hx (pa_cons hy pa_nil))).run pins s σ H Q I ?_⟩
  exact ⟨_, h.1, .ref C, .ref C, b, rfl, fun u hu => hu, k, h.2⟩
theorem LR.setN {r : Ad} {H : Hp} {l : Loc} {s : L2.St} (hl : LR G r H l s) (j : Nat) (w : Option V) : LR G r H (l.set j none) (s.set j w) := by
  refine ⟨by simp [hl.1], fun k v e => ?_⟩
  by_cases hk : k = j
  · subst hk
    have hlt : k < l.length := by simpa using (List.getElem?_eq_some_iff.mp e).1
    rw [List.getElem?_set_self hlt] at e
    cases e
  · rw [List.getElem?_set_ne (Ne.symm hk)] at e
    rw [List.getElem?_set_ne (Ne.symm hk)]
    exact hl.2 k v e
theorem set_twice {s : L2.St} {u v w : Option V} (hij : i ≠ j) : ((s.set j u).set i v).set j w = (s.set i v).set j w := by
  rw [List.set_comm _ _ (Ne.symm hij), List.set_set, List.set_comm _ _ hij]
theorem Kits.len {K : PySem.W.Frag} {C : Addr} {bs : List Bool} (h : Kits K C ts bs) : bs.length = ts.length := by
  induction h with
  | nil => rfl
  | cons _ _ ih => simp [ih]
theorem ms_tryIs1 {y : Str} (h1 : X.stack = X.env :: X.outer) (h2 : X.env.frame = some X.env.locals) (hN : X.N.Nodup) (hj : X.N[j]? = some n) (hln : X.env.kindOf n = some .local) (hc : Names X x cv) (tk : Takes X W) (hx : ExI G X.K cv [tv] 0 rows) (hij : i ≠ j)
    (hb : ∀ (W' : WX) (pn : List (Addr × Obj)) (xe : Value → Shared → Prop), Takes (X.tr pn xe) W' → PassesOwn (model X.prog X.w) X.A X.env xe → MSs (X.tr pn xe) G W' body mb)
    (hy : X.N[i]? = some y) (hyl : L2.Loc X.env.scope y) (hE : IsE X j tv e)
    (hs : ∀ a pn, swapsWith e (some (.Name y p1)) pos2.line (X.suite a pn).env = pure false := by intro _ _; rfl) (hf : X.fn y = true ∨ X.env.scope.names.lookup y = some .local := by first | exact .inl rfl | exact .inr rfl | assumption) :
    MS X G W (.Try body [.ExceptHandler (some (.Name x np)) (some n) [.Assign [.Name y p1] e pos2] pos'] [] [] pos) (sTryIs rows true i j mb) := by
  have base := ps_try_as (X := X) (np := np) (pos := pos) (pos' := pos') (x := x) (b₀ := .Assign [.Name y p1] e pos2) (suite := []) (tb := fun W' => tS G W' mb)
    (ts := fun a cls d D σ H => ∃ C b, cls = .ref C ∧ d = none ∧ ExcC X.K C ∧ PySem.W.kitOne X.K (.ref C) tv = some b ∧ σ[j]? = some (some (.ref a)) ∧ D.nx (σ.set i (some (.bl b))) H) (Wout := W) h1 h2 hN hj hln hc tk hb ?hsu
  case hsu =>
    intro a oe cls d pn hz hfd
    refine ⟨fun pins s σ H D I ⟨C, b, e1, e2, hC, hk, hσ, hD⟩ => ?_⟩
    subst e1 e2
    refine (pss_one (ps_set (X := X.suite a ((a, oe) :: pn)) hN hy hyl (hE a oe C pn b hC hz hfd hk) (hs _ _) hf)).run pins s σ H D I ?_
    exact ⟨hσ, hD⟩
  refine ⟨fun pins s σ H D I ⟨r, h, l, q, hl, p⟩ => base.run pins s σ H D I ⟨r, h, l, q, hl, ?_⟩⟩
  unfold sTryIs at p
  cases em : mb l h with
  | nx l1 h1 => rw [em] at p; exact p
  | rt v h1 => rw [em] at p; exact p
  | bad => rw [em] at p; exact p
  | exc c l1 h1 =>
    rw [em] at p
    dsimp only at p
    intro r' H' s' C e' q' hl' hC
    cases eh : rows[c]? with
    | none => rw [eh] at p; exact p.elim
    | some ob =>
      rw [eh] at p
      cases ob with
      | none => exact p.elim
      | some bs =>
        dsimp only at p
        by_cases hjl : j < l1.length
        · rw [if_pos hjl, if_pos rfl] at p
          obtain ⟨C', g1, g2, g3, g4⟩ := hx.at_ eh
          rw [Nat.zero_add, hC] at g1
          cases g1
          cases g4 with
          | @cons _ b _ bs0 g4 g5 =>
            cases g5
            refine ⟨true, g2, fun _ a ha => ?_, fun eb => by cases eb⟩
            refine ⟨C, b, rfl, rfl, g3, g4, List.getElem?_set_self (by rw [← hl'.1]; exact hjl), ?_⟩
            show D.nx (((s'.set j _).set i _).set j none) _
            rw [set_twice hij]
            exact p r' _ _ e' q' ((hl'.set (.bl b)).setN j none)
        · rw [if_neg hjl] at p; exact p.elim
end
theorem excC_ok {K : PySem.W.Frag} {D : Addr} (h : excCB K D = true) : ExcC K D := by
  obtain ⟨c1, h⟩ := He.ba h
  obtain ⟨c2, h⟩ := He.ba h
  obtain ⟨c3, h⟩ := He.ba h
  obtain ⟨c4, h⟩ := He.ba h
  obtain ⟨c5, h⟩ := He.ba h
  obtain ⟨c6, h⟩ := He.ba h
  obtain ⟨c7, c8⟩ := He.ba h
  exact ⟨He.eqO_ok c1, He.eqO_ok c2, of_decide_eq_true c3, c4, He.eqO_ok c5, He.eqO_ok c6, of_decide_eq_true c7, of_decide_eq_true c8⟩
theorem ex_at {bs : List Bool} (h : bs.all id = true) (i : Nat) {b : Bool} (e : bs[i]? = some b := by rfl) : b = true := List.all_eq_true.mp h b (List.mem_of_getElem? e)
end MM
namespace MM
open PySem L2 PySem.Spec PyProof.Rows
section
variable {X : Cx} {G : Glob}
theorem op_isRefBl : OpR X (compareOp .Is) (fun x y H Q => ∃ a b, x = .ref a ∧ y = .bl b ∧ Q (.bl false) H) := by
  intro pins s σ H x y v u Q I rx ry h
  obtain ⟨a, b, rfl, rfl, q⟩ := h
  cases (show v = Value.ref a from rx)
  cases (show u = Value.bool b from ry)
  exact wpAny_is_other rfl (fun z => by cases z) ⟨.bl false, H, I, rfl, q⟩
def vIsT (a b : Val) (h : HM) : Res Val := match a, b with
  | .tup _, .bl _ => .ok (.bl false) h
  | a, b => vIs a b h
theorem om_isT : OpM X G (compareOp .Is) vIsT := by
  intro W pins s σ H r h a b x y v u Q I q za zb rx ry p
  unfold vIsT at p
  split at p
  · cases za with
    | tup d o zz => cases zb with
      | bl k => exact op_isRefBl pins s σ H _ _ v u Q I rx ry ⟨_, _, rfl, rfl, Post.here q (.bl _) p⟩
  · exact om_is W pins s σ H r h _ _ _ _ v u Q I q za zb rx ry p
end
end MM
namespace MM
open PySem L2 PySem.W
theorem key3_inj {j k : (Int × Int) × Int} (h : key3 j = key3 k) : j = k := by
  unfold key3 at h
  simp only [NestedKey.tup.injEq, List.cons.injEq, NestedKey.num.injEq, and_true] at h
  exact Prod.ext (Prod.ext h.1.1 h.1.2) h.2
theorem hash3 (k : (Int × Int) × Int) (w w' : World) : (key3 k).hash w = (key3 k).hash w' := by
  simp only [key3, NestedKey.hash, NestedKey.hashes]
theorem DN.stay {a : Addr} {xs : List Ent3} {h1 h2 : Heap} (x : DN a xs h1) (k : ∀ o, h1.get? a = some o → h2.get? a = some o) : DN a xs h2 := by
  obtain ⟨h1, h2, h3, w, o, es, ep, h4, r⟩ := x
  exact ⟨h1, h2, h3, w, o, es, ep, k _ h4, r⟩
theorem DN.ok {P : Program} {w : World} {H : Hp} {h : Heap} {a : Addr} {xs : List Ent3} (x : DN a xs h) : ObjOk P w H h a (.ext (DN a xs)) := by
  obtain ⟨h1, h2, h3, w, o, es, ep, h4, r⟩ := id x
  exact ⟨x, ⟨o, h4⟩, fun _ _ y k => y.stay k⟩
theorem nested3 {P : Program} {w : World} {H : Hp} {h : Heap} {r : Ad} {x : Ent3} (ok : HOk P w H h) (z : H x.2.2 = some (.tup [.int x.1.1.1, .int x.1.1.2]) ∧ H x.2.1 = some (.tup [.ref x.2.2, .int x.1.2])) : (nestedKind P w).is h (key3 x.1) x.2.1 := by
  obtain ⟨z1, z2⟩ := z
  obtain ⟨_, i1, r1, o1, a1, b1, n1, c1⟩ := (show ObjOk P w H h x.2.2 (.tup _) from ok _ _ z1)
  obtain ⟨_, i2, r2, o2, a2, b2, n2, c2⟩ := (show ObjOk P w H h x.2.1 (.tup _) from ok _ _ z2)
  refine ⟨?_, by simp [key3, NestedKey.depth, NestedKey.depthAll]⟩
  cases r1 with
  | cons p1 r1 => cases r1 with
    | cons p2 r1 =>
      cases r1
      obtain ⟨t1, rfl⟩ := p1
      obtain ⟨t2, rfl⟩ := p2
      cases r2 with
      | cons p3 r2 => cases r2 with
        | cons p4 r2 =>
          cases r2
          obtain ⟨t4, rfl⟩ := p4
          obtain rfl := (show _ = Value.ref x.2.2 from p3)
          exact .tup a2 b2 c2 (.cons (.tup a1 b1 c1 (.cons (.int _ _) (.cons (.int _ _) .nil))) (.cons (.int _ _) .nil))
def toH (xs : List Ent3) : List (NestedKey × Addr × Value) := xs.map fun x => (key3 x.1, x.2.1, .bool true)
theorem DN.dict {P : Program} {w : World} {H : Hp} {h : Heap} {a : Addr} {xs : List Ent3} (ok : HOk P w H h) (d : DN a xs h) (hk : ∀ x ∈ xs, H x.2.2 = some (.tup [.int x.1.1.1, .int x.1.1.2]) ∧ H x.2.1 = some (.tup [.ref x.2.2, .int x.1.2])) : h.DictOfH (nestedKind P w) a (toH xs) := by
  obtain ⟨h1, h2, h3, w', o, es, ep, h4, h5, h6, h7⟩ := d
  refine ⟨o, es, ep, h4, h5, h6, ?_, fun y hy => ?_, ?_⟩
  · rw [h7, toH, List.map_map]
    apply List.map_congr_left
    intro x _
    show (⟨(key3 x.1).hash w', .ref x.2.1, .bool true⟩ : DictEntry) = ⟨(key3 x.1).hash w, .ref x.2.1, .bool true⟩
    rw [hash3 x.1 w' w]
  · unfold toH at hy
    obtain ⟨x, hx, rfl⟩ := List.mem_map.mp hy
    exact nested3 (r := ⟨[], [], []⟩) ok (hk x hx)
  · have : (toH xs).map (·.1) = (xs.map (·.1)).map key3 := by simp [toH, Function.comp_def]
    rw [this, List.Nodup, List.pairwise_map]
    exact h3.imp fun hne e => hne (key3_inj e)
section
variable {X : Cx} {G : Glob} {W : WX} {r r1 r2 : Ad} {H H1 H2 : Hp} {h h1 : HM} {l : Loc} {s : Shared} {a : Addr} {n : Nat} {pos : Pos} {o e : Expr} {mo : EM}
def isK3 : Val → Option ((Int × Int) × Int)
  | .tup [.tup [.int a, .int b], .int c] => some ((a, b), c)
  | _ => none
def setN (o i v : Val) (h : HM) : Option HM := match o, v with
  | .ref n, .bl true => (match h[n]? with
    | some (.dN ks) => if ks.length < sizeLine then (isK3 i).map fun k => h.set n (.dN (if k ∈ ks then ks else ks ++ [k])) else none
    | _ => none)
  | _, _ => none
end
end MM
namespace MM
open PySem L2
end MM
namespace MM
open PySem L2
open Sem (wp)
open AutoSeq1 (wpAny_loadPart')
theorem meets_enumerate_newT (l : Addr) (items : Array Value) (n : Nat) (dct : Option Addr) (sl : Array (Option Value)) :
    Meets (Builtin.«enumerate.__new__» ⟨[.type "enumerate", .ref l], []⟩) (fun _ R s => s.heap.get? l = some { cls := .type "tuple", dict := dct, data := .seq items n, slots := sl } ∧
      R (.ok (.ret (.ref (s.heap.push { cls := .type "tuple_iterator", data := .fields #[.ref l, .int 0 0] }).objs.size)))
        { s with heap := (s.heap.push { cls := .type "tuple_iterator", data := .fields #[.ref l, .int 0 0] }).push { cls := .type "enumerate", data := .fields #[.none, .bool false, .ref s.heap.objs.size, rawInt 0, .none, .none] } }) :=
  .of_wp fun prog w A R s h => by
    obtain ⟨hp, g, d, tk, os⟩ := s; obtain ⟨hl, h⟩ := h
    have hsub := sub_enumerate
    have hL : Heap.IsTuple (Shared.heap ⟨hp, g, d, tk, os⟩) l items := ⟨_, hl, rfl, n, rfl⟩
    wp_walk using wpAny_loadPart' hl
    refine wpAny_stack_any fun st => wpAny_pure ?_
    split
    · rename_i c _ _ _ _ _
      cases (c == Value.type "enumerate")
      · wp_walk using wpAny_loadPart' hl, wpAny_pyIter_tuple hL
        exact ⟨_, rfl, h⟩
      · wp_walk using wpAny_loadPart' hl, wpAny_pyIter_tuple hL
        exact ⟨_, rfl, h⟩
    · wp_walk using wpAny_loadPart' hl, wpAny_pyIter_tuple hL
      exact ⟨_, rfl, h⟩
section
variable {prog : Program} {w : World} {A : Around} {E : Value → Shared → Prop} {s : Shared}
theorem call_enumerate_tuple {l : Addr} {items : Array Value} {Q : Value → Shared → Prop} (hL : s.heap.IsTuple l items)
    (h : ∀ h', IsEnum h' (s.heap.objs.size + 1) s.heap.objs.size 0 .none → h'.IsTupleIter s.heap.objs.size l 0 → h'.objs.size = s.heap.objs.size + 2 →
      (∀ b o, s.heap.get? b = some o → h'.get? b = some o) → Q (.ref (s.heap.objs.size + 1)) { s with heap := h' }) :
    wpAny (model prog w) A (call (.type "enumerate") [.ref l]) Q E s := by
  obtain ⟨⟨c, dct, dt, sl⟩, hl, hc, n, hd⟩ := hL
  replace hc : c = .type "tuple" := hc
  replace hd : dt = .seq items n := hd
  subst hc hd
  refine callType_new F.called_enumerate (by decide) (F.typeCall_enumerate_1 _) (F.newCall_enumerate_1 _) (fun obj => F.args_object_init_2 obj _) F.entry_enumerate_new
    (meets_enumerate_newT l items n dct sl) ⟨hl, ?_⟩
  have hz : (s.heap.push { cls := .type "tuple_iterator", data := .fields #[.ref l, .int 0 0] }).objs.size = s.heap.objs.size + 1 := Heap.size_push ..
  show _ ∧ _
  rw [hz]
  have he : IsEnum ((s.heap.push { cls := .type "tuple_iterator", data := .fields #[.ref l, .int 0 0] }).push
      { cls := .type "enumerate", data := .fields #[.none, .bool false, .ref s.heap.objs.size, rawInt 0, .none, .none] }) (s.heap.objs.size + 1) s.heap.objs.size 0 .none := by
    have := Heap.get?_push_size (s.heap.push { cls := .type "tuple_iterator", data := .fields #[.ref l, .int 0 0] })
      (o := { cls := .type "enumerate", data := .fields #[.none, .bool false, .ref s.heap.objs.size, rawInt 0, .none, .none] }) rfl
    rw [hz] at this; exact this
  refine ⟨⟨_, he, rfl⟩, h _ he ⟨_, Heap.get?_push_of_some _ (Heap.get?_push_size _ rfl), rfl, rfl⟩ (by rw [Heap.size_push, hz]) fun b o x => Heap.get?_push_of_some _ (Heap.get?_push_of_some _ x)⟩
end
/-- the tuple at a, each item in a new pair -/
def IteT (K : PySem.W.Frag) (a : Addr) : It :=
  ⟨fun i H => ∃ (xs : List V) (x : V), SqT K H a xs ∧ xs[i]? = some x, fun i H v H' => ∃ T x, v = .ref T ∧ H T = none ∧ H' = upd H T (.tup [.int (i : Nat), x]) ∧ ∀ xs, SqT K H a xs → xs[i]? = some x, fun i H => ∃ xs : List V, SqT K H a xs ∧ xs.length ≤ i⟩
theorem turn_enumT {P : Program} {w : World} {K : PySem.W.Frag} {elts : List Expr} {kk : Nat} {tpos : Pos} (a e it : Addr) :
    Turn P w K (.Tuple elts kk tpos) (IteT K a) [e, it] e (fun i h => (∃ old, IsEnum h e it ((i : Nat) : Int) old) ∧ h.IsTupleIter it a i ∧ e ≠ it ∧ a ≠ it ∧ e ≠ a) where
  mem := by simp
  obj := fun i h st b hb => by
    obtain ⟨⟨old, he⟩, ⟨o, ho, hc, hd⟩, _⟩ := st
    have e' : b = e ∨ b = it := by simpa using hb
    rcases e' with z | z
    · rw [z]; exact ⟨_, he, fun v q => nomatch q⟩
    · rw [z]; exact ⟨o, ho, fun v q => by rw [hd] at q; cases q⟩
  keep := fun i h h' st k => let ⟨⟨old, he⟩, hi, hne⟩ := st; ⟨⟨old, k e (by simp) _ he⟩, hi.at fun o q => k it (by simp) o q, hne⟩
  item := by
    intro X hP hw hK hc i pins s σ H E I hf st hg
    subst hP hw hK
    obtain ⟨⟨old, he⟩, hit, hne, hna, hea⟩ := st
    obtain ⟨xs, x, hq, hx⟩ := hg
    obtain ⟨its, rv, p, hz⟩ := I.tuple hq
    have p : s.heap.IsTuple a its.toArray := p
    obtain ⟨u, hu, ru⟩ := rv.get hx
    have hel : e < s.heap.objs.size := Heap.lt_size he
    have hil : it < s.heap.objs.size := by obtain ⟨_, q, _⟩ := hit; exact Heap.lt_size q
    have hlt : i < its.toArray.size := by
      have := (List.getElem?_eq_some_iff.mp hu).1
      simpa using this
    refine wpAny_pyNext_enum_itemD (Draws.tuple (show X.A.in1.handled = none from I.ok.hd hc) it a hna its.toArray) he ⟨hit, p⟩ hlt hne (by simp [hne, hea]) fun v h' tk hv ho st' hT hsz hk => ?_
    have ev : v = u := by
      have h1 : its.toArray[i]? = some v := hv
      have h2 : its.toArray[i]? = some u := by simpa using hu
      rw [h1] at h2; exact Option.some.inj h2
    subst ev
    refine ⟨_, rfl, wpAny_letOwnedTupleGo_enum (s := { s with heap := h', toks := tk + 1 }) ho fun h'' he' sb => ?_⟩
    have hT2 : h''.get? s.heap.objs.size = some { cls := .type "tuple", data := .seq #[.int i tk, v] } := (sb.2 _ (Nat.ne_of_gt hel)).trans hT
    have new : ObjOk X.prog X.w (upd H s.heap.objs.size (.tup [.int (i : Nat), x])) h'' s.heap.objs.size (.tup [.int (i : Nat), x]) :=
      ⟨by show 2 ≤ sizeLine; decide, [.int i tk, v], .cons ⟨_, rfl⟩ (.cons ru .nil), ⟨_, hT2, rfl, _, rfl⟩⟩
    have I1 : Inv X pins σ (upd H s.heap.objs.size (.tup [.int (i : Nat), x])) { s with heap := h'', toks := tk + 1 } :=
      I.turnedNew (ch := [e, it]) (fun b ob hb q => (sb.2 b (fun z => hb (by simp [z]))).trans (hk b ob (fun z => hb (by simp [z])) (fun z => hb (by simp [z])) q)) hf (Nat.le_refl _) new
    refine ⟨.ref s.heap.objs.size, _, I1, rfl, ⟨_, x, rfl, I.hok.fresh (Nat.le_refl _), rfl, fun ys hy => by rw [I.tuple_inj hy hq]; exact hx⟩, ⟨⟨v, ?_⟩, st'.1.at fun o q => (sb.2 it (Ne.symm hne)).trans q, hne, hna, hea⟩, fun b hb => ?_⟩
    · have e1 : ((i + 1 : Nat) : Int) = (i : Int) + 1 := by omega
      rw [e1]; exact he'
    · have hb' : b < s.heap.objs.size := by
        have e' : b = e ∨ b = it := by simpa using hb
        rcases e' with z | z
        · rw [z]; exact hel
        · rw [z]; exact hil
      rw [upd_ne (Nat.ne_of_lt hb')]
      exact (hf b hb).1
  done := by
    intro X hP hw hK hc i pins s σ H E I hf st hg
    subst hP hw hK
    obtain ⟨⟨old, he⟩, hit, hne, hna, hea⟩ := st
    obtain ⟨xs, hq, hx⟩ := hg
    obtain ⟨its, rv, p, hz⟩ := I.tuple hq
    have p : s.heap.IsTuple a its.toArray := p
    obtain ⟨f0, f1, f2, f3, f4, f5⟩ := hf it (by simp)
    have hl := rv.length
    have hT : s.TypeIs (.ref e) "enumerate" := ⟨_, he, rfl⟩
    unfold pyNext
    refine wpAny_bind (wpAny_attempt (wpAny_callSpecial?_slot (name := Str.ofString "__next__") hT F.slot_enumerate_next
      (wpAny_call_entry F.slot_enumerate_next hT F.entry_enumerate_next ?_ (F.args_enumerate_next_1 _))))
    show wpAny _ _ (field (.ref e) 2 >>= _) _ _ _
    refine wpAny_bind (wpAny_field he rfl (x := .ref it) rfl ?_)
    refine wpAny_bind (wpAny_nextOf_tuple_end (show X.A.handled = none from I.ok.hd hc) hit p (by simp; omega) fun h' x eb hx' => ?_)
    obtain ⟨o, ho, hc'⟩ := hx'
    refine wpAny_bind (wpAny_isInstance (T := "StopIteration") (b := true) ⟨o, ho, hc'⟩ isSubtype_stop ?_)
    exact wpAny_pure ⟨rfl, I.turned (t' := s.toks) (fun b o hb q => eb b o hb q) f0 f1 f3 f4 f5⟩
  self := fun A i s Q E st h => let ⟨⟨_, he⟩, _⟩ := st; wpAny_pyIter_enum he h
def iEnumT (K : PySem.W.Frag) (ta : TA) : TI := fun σ H R => ta σ H fun vs H1 => ∃ a xs, vs = [.ref a] ∧ SqT K H1 a xs ∧ R (IteT K a) H1
open PySem.Spec PyProof.Rows in
theorem pi_enumT {X : Cx} {e : Expr} {ta : TA} {p pos tpos : Pos} {elts : List Expr} {kk : Nat} (hg : Gl X "enumerate") (hm : X.mg "enumerate" = none) (ha : PA X [e] ta) (hs : starEach [e] X.env = [(false, eval e X.env)] := by rfl) :
    PI X (.Tuple elts kk tpos) (.Call (.Name "enumerate" p) [e] [] pos) (iEnumT X.K ta) := by
  refine ⟨fun pins s σ H R I h => ?_⟩
  refine Call_ (ld_blt I hg hm boot_enumerate (PyProof.Rows.callWith_type1 (thn (ha.run pos pins s σ H _ I h) fun us s1 ⟨vs, H1, I1, r1, q1⟩ => ?_) hs rfl))
  obtain ⟨a, xs, ex, hq, q⟩ := q1
  subst ex
  cases r1 with
  | cons r rr =>
    cases rr
    cases r
    obtain ⟨its, rv, p', hz⟩ := I1.tuple hq
    have p' : s1.heap.IsTuple a its.toArray := p'
    have hal : a < s1.heap.objs.size := by obtain ⟨_, q, _⟩ := p'; exact Heap.lt_size q
    refine call_enumerate_tuple p' fun h' he hit hsz hk => wpAny_pyIter_enum he ?_
    have I2 : Inv X pins σ H1 { s1 with heap := h' } := I1.kept (t' := s1.toks) hk
    refine ⟨s1.heap.objs.size + 1, [s1.heap.objs.size + 1, s1.heap.objs.size], _, _, H1, rfl, I2, turn_enumT a (s1.heap.objs.size + 1) s1.heap.objs.size, ⟨⟨.none, he⟩, hit, Nat.succ_ne_self _, Nat.ne_of_lt hal, Nat.ne_of_gt (Nat.lt_succ_of_lt hal)⟩, fun b hb => ?_, q⟩
    have e' : b = s1.heap.objs.size + 1 ∨ b = s1.heap.objs.size := by simpa using hb
    have hle : s1.heap.objs.size ≤ b := by
      rcases e' with z | z
      · rw [z]; exact Nat.le_add_right _ _
      · rw [z]; exact Nat.le_refl _
    exact I1.fpOk hle (I1.hok.fresh hle)
section
variable {X : Cx} {G : Glob} {W : WX} {r r1 r2 : Ad} {H H1 H2 : Hp} {h h1 : HM} {l : Loc} {K : PySem.W.Frag} {a : Addr} {xs : List Val} {vs : List V} {n k : Nat} {pos p : Pos} {a1 : Expr} {ma : AM}
theorem srcR_enumT (d : Rd H a (.tup vs)) (o : r.out a) (z : VRs G r H xs vs) : SrcR G r H (srcItems (numbered 0 xs)) (IteT K a) := by
  intro r2 H2 h2 e lk q
  obtain ⟨d2, o2⟩ := e.rd d o
  have z2 := z.ex e
  refine ⟨fun i x _ ex => ?_, fun _ => ⟨vs, .inl d2, by show vs.length ≤ (numbered 0 xs).length; rw [numbered_len, z.length]; exact Nat.le_refl _⟩⟩
  have ex' : (numbered 0 xs)[i]? = some x := ex
  rw [numbered_get, Option.map_eq_some_iff] at ex'
  obtain ⟨x0, hx0, rfl⟩ := ex'
  obtain ⟨v, hv, zv⟩ := z2.get hx0
  refine ⟨⟨vs, v, .inl d2, hv⟩, fun v' H3 ⟨T, y, ev, nT, e3, hy⟩ => ?_⟩
  subst ev e3
  have := hy vs (.inl d2)
  rw [hv] at this; cases this
  refine ⟨ext_new q nT, q.laid nT, .tup upd_same (q.new nT) (.cons ?_ (.cons (zv.ext (ext_new q nT)) .nil))⟩
  rw [Nat.zero_add]
  exact .int _
/-- enumerate(tuple) -/
def enumT (xs : List Val) (h : HM) : Res Src := match xs with
  | [v] => (match tupL v with
    | some ys => .ok (srcItems (numbered 0 ys)) h
    | none => .bad)
  | _ => .bad
theorem mi_enumT {elts : List Expr} {kk : Nat} {tpos : Pos} (hg : Gl X "enumerate") (hm : X.mg "enumerate" = none) (ha : MA X G W [a1] ma) (hs : starEach [a1] X.env = [(false, eval a1 X.env)] := by rfl) : MI X G W (.Tuple elts kk tpos) (.Call (.Name "enumerate" p) [a1] [] pos) (iArgs enumT ma) := by
  refine ⟨fun pins s σ H R I ⟨r, h, l, q, hl, pp⟩ => (pi_enumT hg hm ha hs).run pins s σ H R I ⟨r, h, l, q, hl, (Post.bind pp).imp fun vs H1 ⟨r1, h1, w1, e1, q1, z1, p1⟩ => ?_⟩⟩
  dsimp only [enumT] at p1
  split at p1
  · split at p1
    · rename_i ys e
      cases z1 with
      | cons z2 z3 =>
        cases z3
        obtain ⟨a, us, rfl, d, o, zz⟩ := tupL_ok z2 e
        exact ⟨a, us, rfl, .inl d, Post.here q1 (srcR_enumT d o zz) p1⟩
    · exact p1.elim
  · exact p1.elim
end
end MM
namespace MM
open PySem L2 PySem.W
noncomputable section
def m_law_changed : FM := mF 6 (sSeq (sAsg (eC (.str ";,:.=0123456789ab")) (gNm 2))
  (sSeq (sAsg (eCall m_law_mix (aCons (eVar 1) (aCons (eC (.int 9811)) (aCons (e2 vAdd (eBi bLen (aCons (eVar 0) (aNil))) (eC (.int 1))) (aNil))))) (gNm 3))
  (sSeq (sAsg (e2 vIx (eVar 2) (eCall m_law_mix (aCons (eVar 1) (aCons (eC (.int 9803)) (aCons (eC (.int 17)) (aNil)))))) (gNm 4))
  (sSeq (sAsg (eCall m_law_mix (aCons (eVar 1) (aCons (eC (.int 9791)) (aCons (eC (.int 3)) (aNil))))) (gNm 5))
  (sSeq (sIf (tOf (e2 vEq (eVar 5) (eC (.int 0)))) (sRet (e2 vAdd (e2 vAdd (eSl (eVar 0) (oNone) (oSome (eVar 3))) (eVar 4)) (eSl (eVar 0) (oSome (eVar 3)) (oNone)))) (sNil))
  (sSeq (sIf (tOf (e2 vEq (eVar 5) (eC (.int 1)))) (sRet (e2 vAdd (eSl (eVar 0) (oNone) (oSome (eVar 3))) (eSl (eVar 0) (oSome (e2 vAdd (eVar 3) (eC (.int 1)))) (oNone)))) (sNil))
  (sRet (e2 vAdd (e2 vAdd (eSl (eVar 0) (oNone) (oSome (eVar 3))) (eVar 4)) (eSl (eVar 0) (oSome (e2 vAdd (eVar 3) (eC (.int 1)))) (oNone))))))))))
def m_law_read : FM := mF 3 (sSeq (sAsg (eC .non) (gNm 1))
  (sSeq (sTryIs [none, none, none, none, some [true]] true 1 2 (sAsg (eCall m_read_k20 (aCons (eVar 0) (aNil))) (gNm 1)))
  (sRet (eVar 1))))
def m_law_is_told_v2 : FM := mF 2 (sSeq (sAsg (eCall m_law_read (aCons (eVar 0) (aNil))) (gNm 1))
  (sSeq (sIf (tOf (e2 vIsT (eVar 1) (eC (.bl true)))) (sRet (eC (.bl true))) (sNil))
  (sSeq (sIf (tOf (e2 vIsNot (eCall m_is_file (aCons (eVar 1) (aNil))) (eC (.bl true)))) (sRet (eC (.bl false))) (sNil))
  (sRet (eAndM (e2 vEq (eCall m_law_written (aCons (eVar 1) (aNil))) (eVar 0)) (eAndM (eCall s_law_same (aCons (eCall m_written (aCons (eVar 1) (aNil))) (aCons (eVar 0) (aNil)))) (eCall s_law_same (aCons (eCall m_read_k20 (aCons (eVar 0) (aNil))) (aCons (eVar 1) (aNil))))))))))
def m_law_k20_f1 : SM := sSeq (sAsg (eCall m_law_changed (aCons (eVar 4) (aCons (e2 vAdd (e2 vAdd (eCall m_law_cell (aCons (eVar 0) (aCons (e2 vAdd (eC (.int 4)) (eVar 5)) (aNil)))) (e2 vMul (eC (.int 13)) (eVar 5))) (eVar 1)) (aNil)))) (gNm 4))
  (sIf (tNotM (tTru (eCall m_law_is_told_v2 (aCons (eVar 4) (aNil))))) (sRet (eC (.bl false))) (sNil))
def m_law_k20_f2 : SM := sSeq (sAsg (eCall m_law_mix (aCons (e2 vAdd (eVar 2) (eVar 7)) (aCons (eC (.int 9769)) (aCons (e2 vAdd (eBi bLen (aCons (eVar 9) (aNil))) (eC (.int 1))) (aNil))))) (gNm 10))
  (sIf (tOf (e2 vLt (eVar 10) (eBi bLen (aCons (eVar 9) (aNil))))) (sSeq (sAsg (eDisp mkTup (aCons (eVar 8) (aCons (e2 vAdd (e2 vAdd (eSl (eVar 9) (oNone) (oSome (eVar 10))) (eC (.str ";"))) (eSl (eVar 9) (oSome (e2 vAdd (eVar 10) (eC (.int 1)))) (oNone))) (aNil)))) (gNm 11))
  (sSeq (sAsg (e2 vAdd (e2 vAdd (eSl (e2 vIx (eVar 3) (eC (.int 4))) (oNone) (oSome (eVar 7))) (eDisp mkTup (aCons (eVar 11) (aNil)))) (eSl (e2 vIx (eVar 3) (eC (.int 4))) (oSome (e2 vAdd (eVar 7) (eC (.int 1)))) (oNone))) (gNm 12))
  (sIf (tNotM (tTru (eCall s_law_same (aCons (eCall m_read_k20 (aCons (eCall m_law_written (aCons (e2 vAdd (eSl (eVar 3) (oNone) (oSome (eC (.int 4)))) (eDisp mkTup (aCons (eVar 12) (aNil)))) (aNil))) (aNil))) (aCons (e2 vAdd (eSl (eVar 3) (oNone) (oSome (eC (.int 4)))) (eDisp mkTup (aCons (eVar 12) (aNil)))) (aNil)))))) (sRet (eC (.bl false))) (sNil)))) (sNil))
def m_law_k20_f0 : SM := sSeq (sAsg (eCall m_law_cell (aCons (eVar 0) (aCons (eVar 1) (aNil)))) (gNm 2))
  (sSeq (sAsg (eCall m_law_file (aCons (eVar 2) (aCons (eCall m_law_which (aCons (e2 vAdd (eVar 2) (eC (.int 1))) (aNil))) (aCons (eCall m_law_name (aCons (e2 vAdd (eVar 2) (eC (.int 2))) (aNil))) (aCons (eCall m_law_cell (aCons (eVar 0) (aCons (e2 vAdd (eVar 1) (eC (.int 1))) (aNil)))) (aNil)))))) (gNm 3))
  (sSeq (sAsg (eCall m_law_written (aCons (eVar 3) (aNil))) (gNm 4))
  (sSeq (sFor (iArgs rng1 (aCons (eC (.int 3)) (aNil))) (gNm 5) m_law_k20_f1)
  (sSeq (sAsg (eCall m_law_mix (aCons (eVar 2) (aCons (eC (.int 9781)) (aCons (eC (.int 12)) (aNil))))) (gNm 6))
  (sSeq (sIf (tNotM (tTru (eCall m_law_is_told_v2 (aCons (eBm .str mJoin (eC (.str "")) (aCons (eLc (iArgs rng1 (aCons (eVar 6) (aNil))) (gNm 7) (tYesM) (e2 vIx (eC (.str ";,:.=01ab")) (eCall m_law_mix (aCons (e2 vAdd (eVar 2) (e2 vMul (eC (.int 3)) (eVar 7))) (aCons (eC (.int 9787)) (aCons (eC (.int 9)) (aNil)))))) [7] frozen) (aNil))) (aNil))))) (sRet (eC (.bl false))) (sNil))
  (sFor (iArgs enumT (aCons (e2 vIx (eVar 3) (eC (.int 4))) (aNil))) (gTp 2 (gsCons (gNm 7) (gsCons (gTp 2 (gsCons (gNm 8) (gsCons (gNm 9) (gsNil)))) (gsNil)))) m_law_k20_f2))))))
def m_law_k20 : FM := mF 13 (sSeq (sFor (iArgs rng1 (aCons (eC (.int 4)) (aNil))) (gNm 1) m_law_k20_f0)
  (sRet (eC (.bl true))))
theorem mapR_X {α β : Type} {f : α → PR β} : ∀ {xs : List α} {ys : List β}, mapR f xs = some ys → mapX f xs = some (some ys)
  | [], ys, e => by cases e; rfl
  | x :: xs, ys, e => by
    unfold mapR at e
    split at e
    · rename_i y zs e1 e2
      cases e
      unfold mapX
      rw [e1, pb_ok, mapR_X e2, pb_ok]
    · cases e
theorem parseR_X {x : List Nat} {q : Fl × List Nat} (e : parseR x = some (some q)) : parseX x = some (some q) := by
  unfold parseR at e
  unfold parseX
  cases c1 : cutC 59 x with
  | none => rw [c1] at e; cases e
  | some q1 =>
    obtain ⟨a, r1⟩ := q1
    rw [c1] at e
    dsimp only at e ⊢
    obtain ⟨id, m1, e⟩ := pb_some e
    rw [m1, pb_ok]
    cases c2 : cutC 59 r1 with
    | none => rw [c2] at e; cases e
    | some q2 =>
      obtain ⟨fi, r2⟩ := q2
      rw [c2] at e
      dsimp only at e ⊢
      cases c3 : cutC 59 r2 with
      | none => rw [c3] at e; cases e
      | some q3 =>
        obtain ⟨kn, r3⟩ := q3
        rw [c3] at e
        dsimp only at e ⊢
        cases k1 : mapR markR (listL kn) with
        | none => rw [k1] at e; cases e
        | some known =>
          rw [k1] at e
          rw [mapR_X k1, pb_ok]
          dsimp only at e
          cases c4 : cutC 59 r3 with
          | none => rw [c4] at e; cases e
          | some q4 =>
            obtain ⟨nm, r4⟩ := q4
            rw [c4] at e
            dsimp only at e ⊢
            cases n1 : mapR nameR (listL nm) with
            | none => rw [n1] at e; cases e
            | some names =>
              rw [n1] at e
              rw [mapR_X n1, pb_ok]
              dsimp only at e
              exact e
theorem readX_wr {f : Fl} (h : Pr f) (hg : goodB f = true) : readX (wrL f) = some (some f) := by
  have := parseR_X (parse_wr (rest := []) h)
  rw [List.append_nil] at this
  unfold readX
  rw [this, pb_ok, if_pos ⟨rfl, hg, rfl⟩]
theorem pl_eT {f : Fl} (hw : Wr f) (ho : OkF f) {k : Val} (hk : tupL k = some (f.known.map eM)) : pl 30 (eFk f k) = true := by
  have p1 : pl 29 k = true := pl_tupL hk (by have := hw.kl; simp; omega) (pl_mks _)
  have ok : ∀ {xs : List Wd}, (∀ p ∈ xs, ∀ c ∈ tl p.2, c < 1114112) → okW xs := fun {xs} h p hp => by
    have := strOk_sg (h p hp)
    rwa [sg_tl] at this
  have p2 : pl 29 (.tup (f.names.map eW)) = true := pl_tupL rfl (by have := hw.nl; simp; omega) (pl_wds (ok ho.names))
  have p3 : pl 29 (.tup (f.texts.map eW)) = true := pl_tupL rfl (by have := hw.tl; simp; omega) (pl_wds (ok ho.texts))
  have p4 : pl 29 (eM f.id) = true := by simp [eM, pl]
  have p5 : pl 29 (.str f.first) = true := by
    have := strOk_sg ho.first
    rwa [sg_tl] at this
  refine pl_tupL (xs := [eM f.id, .str f.first, k, .tup (f.names.map eW), .tup (f.texts.map eW)]) rfl (by simp) ?_
  simp only [List.all_cons, List.all_nil, p1, p2, p3, p4, p5, Bool.and_self]
theorem same_eT {f : Fl} (hw : Wr f) (ho : OkF f) {k j : Val} (hk : tupL k = some (f.known.map eM)) (hj : tupL j = some (f.known.map eM)) (h : HM) : s_law_same [eFk f k, eFk f j] h = .ok (.bl true) h := by
  rw [same_ok (pl_eT hw ho hk) (pl_eT hw ho hj), sameB_file hk hj]
/-- each text is refused, or told of rightly -/
theorem at_isTold {x : List Nat} {h : HM} (hx : x.length ≤ 560) (ho : ∀ c ∈ x, c < 1114112) : ∃ g, m_law_is_told_v2 [.str (sg x)] h = .ok (.bl true) (h ++ g) := by
  obtain ⟨r, hr⟩ := readX_ne (x := x) (by omega)
  obtain ⟨g1, e1⟩ := at_readX (h := h) (by omega) ho hr
  cases r with
  | none =>
    have e2 : m_law_read [.str (sg x)] h = .ok (.bl true) (h ++ g1) := by
      rw [toX_no] at e1
      unfold m_law_read mF
      show (match sSeq _ _ [some (.str (sg x)), none, none] h with | .nx _ h1 => _ | .rt v h1 => _ | .exc c _ h1 => _ | .bad => _) = _
      simp [sTryIs, e1]
    refine ⟨g1, ?_⟩
    have tt : ∀ h, vIsT (.bl true) (.bl true) h = .ok (.bl true) h := fun h => rfl
    unfold m_law_is_told_v2 mF
    show (match sSeq _ _ [some (.str (sg x)), none] h with | .nx _ h1 => _ | .rt v h1 => _ | .exc c _ h1 => _ | .bad => _) = _
    simp only [ev_sSeq, ev_sAsg, ev_eCall, ev_aCons, ev_aNil, ev_Var0, Res.bind_ok, e2, Res.thn_ok, ev_gNmS, ev_gNm0, Option.map_some, ev_sIf, ev_tOf, ev_e2, ev_VarS, ev_C, tt, ev_toB, if_true, ev_sRet]
  | some f =>
    have e2 : m_law_read [.str (sg x)] h = .ok (eT f) (h ++ g1) := by
      rw [toX_ok] at e1
      unfold m_law_read mF
      show (match sSeq _ _ [some (.str (sg x)), none, none] h with | .nx _ h1 => _ | .rt v h1 => _ | .exc c _ h1 => _ | .bad => _) = _
      simp [sTryIs, e1]
    obtain ⟨hw, okf, hg, hx2⟩ := readX_some (by omega) ho hr
    have tf : ∀ h, vIsT (eT f) (.bl true) h = .ok (.bl false) h := fun h => rfl
    have isf : ∀ h, m_is_file [eT f] h = .ok (.bl true) h := fun h => by rw [isFile_any hw, hg]
    have lw : ∀ h, m_law_written [eT f] h = .ok (.str (sg x)) h := fun h => by
      have := at_lawWritten (h := h) hw (k := .tup (f.known.map eM)) rfl
      rw [hx2] at this; exact this
    have wr : ∀ h, m_written [eT f] h = .ok (.str (sg x)) h := fun h => by
      have := at_written (h := h) hw (k := .tup (f.known.map eM)) rfl
      rw [hx2] at this; exact this
    have eq : ∀ h, vEq (.str (sg x)) (.str (sg x)) h = .ok (.bl true) h := fun h => by rw [eqS (strOk_sg ho) (strOk_sg ho)]; simp
    have sm : ∀ h, s_law_same [.str (sg x), .str (sg x)] h = .ok (.bl true) h := fun h => same_str _ (strOk_sg ho) h
    have sf : ∀ h, s_law_same [eT f, eT f] h = .ok (.bl true) h := fun h => same_eT hw okf rfl rfl h
    obtain ⟨g2, e3⟩ := at_readX (h := h ++ g1) (by omega) ho hr
    rw [toX_ok] at e3
    refine ⟨g1 ++ g2, ?_⟩
    rw [← List.append_assoc]
    generalize eT f = fv at *
    unfold m_law_is_told_v2 mF
    show (match sSeq _ _ [some (.str (sg x)), none] h with | .nx _ h1 => _ | .rt v h1 => _ | .exc c _ h1 => _ | .bad => _) = _
    simp only [ev_sSeq, ev_sAsg, ev_eCall, ev_aCons, ev_aNil, ev_Var0, Res.bind_ok, e2, Res.thn_ok, ev_gNmS, ev_gNm0, Option.map_some, ev_sIf, ev_tOf, ev_e2, ev_VarS, ev_C, tf, ev_toB, Bool.false_eq_true, if_false, ev_sNil, isf, ev_isNotBB, decide_true, Bool.not_true, ev_sRet, ev_eAnd, lw, eq, if_true, wr, sm, e3, sf]
def chS : List Nat := [59, 44, 58, 46, 61, 48, 49, 50, 51, 52, 53, 54, 55, 56, 57, 97, 98]
theorem eqCh : Str.ofString ";,:.=0123456789ab" = sg chS := by decide +kernel
theorem at_changed {x : List Nat} {c : Int} {h : HM} (hx : x.length ≤ 1000) (ho : ∀ c ∈ x, c < 1114112) : ∃ y, m_law_changed [.str (sg x), .int c] h = .ok (.str (sg y)) h ∧ y.length ≤ x.length + 1 ∧ ∀ c ∈ y, c < 1114112 := by
  have ln : ∀ h, bLen [.str (sg x)] h = .ok (.int (x.length : Nat)) h := fun h => lenSg (by omega)
  obtain ⟨a, ha⟩ : ∃ a, a = mix c 9811 ((x.length : Nat) + 1) := ⟨_, rfl⟩
  have a0 : 0 ≤ a := by rw [ha]; exact mix_nn (by omega)
  have a1 : a < (x.length : Nat) + 1 := by rw [ha]; exact mix_lt (by omega)
  have mx1 : ∀ h, m_law_mix [.int c, .int 9811, .int ((x.length : Nat) + 1)] h = .ok (.int a) h := fun h => by rw [at_mix (by decide) (by omega), ha]
  obtain ⟨s, hs⟩ : ∃ s, s = mix c 9803 17 := ⟨_, rfl⟩
  have s0 : 0 ≤ s := by rw [hs]; exact mix_nn (by decide)
  have s1 : s < 17 := by rw [hs]; exact mix_lt (by decide)
  have mx2 : ∀ h, m_law_mix [.int c, .int 9803, .int 17] h = .ok (.int s) h := fun h => by rw [at_mix (by decide) (by decide), hs]
  obtain ⟨q, hq⟩ : ∃ q, q = mix c 9791 3 := ⟨_, rfl⟩
  have mx3 : ∀ h, m_law_mix [.int c, .int 9791, .int 3] h = .ok (.int q) h := fun h => by rw [at_mix (by decide) (by decide), hq]
  have ixs : ∀ h, vIx (.str (sg chS)) (.int s) h = .ok (.str (sg [pick chS s])) h := fun h => ix_str (by decide) s0 s1
  have pm := pick_mem (L := chS) s0 s1
  generalize pick chS s = sn at ixs pm
  have snl : sn < 1114112 := by
    have key : ∀ c ∈ chS, c < 1114112 := by decide
    exact key sn pm
  have sA : ∀ h, vSl (.str (sg x)) none (some a) h = .ok (.str (sg (x.take a.toNat))) h := fun h => by rw [sl_sg (by omega), cutL_to a0]
  have sB : ∀ h, vSl (.str (sg x)) (some a) none h = .ok (.str (sg (x.drop a.toNat))) h := fun h => by rw [sl_sg (by omega), cutL_from a0]
  have sC : ∀ h, vSl (.str (sg x)) (some (a + 1)) none h = .ok (.str (sg (x.drop (a + 1).toNat))) h := fun h => by rw [sl_sg (by omega), cutL_from (by omega)]
  have ot : ∀ k, ∀ c ∈ x.take k, c < 1114112 := fun k c hc => ho c (List.mem_of_mem_take hc)
  have od : ∀ k, ∀ c ∈ x.drop k, c < 1114112 := fun k c hc => ho c (List.mem_of_mem_drop hc)
  have lt : (x.take a.toNat).length ≤ x.length := by rw [List.length_take]; omega
  have ld : ∀ k, (x.drop k).length ≤ x.length := fun k => by rw [List.length_drop]; omega
  have tot : (x.take a.toNat).length + (x.drop a.toNat).length = x.length := by simp; omega
  have tot2 : (x.take a.toNat).length + (x.drop (a + 1).toNat).length ≤ x.length := by simp; omega
  have ap : ∀ (y z : List Nat) h, y.length + z.length ≤ 10000 → vAdd (.str (sg y)) (.str (sg z)) h = .ok (.str (sg (y ++ z))) h := fun y z h hl => addS (by omega)
  have ad1 : ∀ h, vAdd (.str (sg (x.take a.toNat))) (.str (sg [sn])) h = .ok (.str (sg (x.take a.toNat ++ [sn]))) h := fun h => ap _ _ h (by simp; omega)
  have ad2 : ∀ h, vAdd (.str (sg (x.take a.toNat ++ [sn]))) (.str (sg (x.drop a.toNat))) h = .ok (.str (sg (x.take a.toNat ++ [sn] ++ x.drop a.toNat))) h := fun h => ap _ _ h (by simp; omega)
  have ad3 : ∀ h, vAdd (.str (sg (x.take a.toNat))) (.str (sg (x.drop (a + 1).toNat))) h = .ok (.str (sg (x.take a.toNat ++ x.drop (a + 1).toNat))) h := fun h => ap _ _ h (by simp; omega)
  have ad4 : ∀ h, vAdd (.str (sg (x.take a.toNat ++ [sn]))) (.str (sg (x.drop (a + 1).toNat))) h = .ok (.str (sg (x.take a.toNat ++ [sn] ++ x.drop (a + 1).toNat))) h := fun h => ap _ _ h (by simp; omega)
  refine ⟨if q = 0 then x.take a.toNat ++ [sn] ++ x.drop a.toNat else if q = 1 then x.take a.toNat ++ x.drop (a + 1).toNat else x.take a.toNat ++ [sn] ++ x.drop (a + 1).toNat, ?_, ?_, ?_⟩
  · unfold m_law_changed mF
    rw [eqCh]
    show (match sSeq _ _ [some (.str (sg x)), some (.int c), none, none, none, none] h with | .nx _ h1 => _ | .rt v h1 => _ | .exc c _ h1 => _ | .bad => _) = _
    by_cases q0 : q = 0
    · simp only [if_pos q0, ev_sSeq, ev_sAsg, ev_C, Res.thn_ok, ev_gNmS, ev_gNm0, Option.map_some, ev_eCall, ev_aCons, ev_aNil, ev_VarS, ev_Var0, Res.bind_ok, ev_e2, ev_eBi, ln, ev_addI, mx1, mx2, ixs, mx3, ev_sIf, ev_tOf, ev_eqI, decide_eq_true q0, ev_toB, if_true, ev_sRet, ev_eSl, ev_oNone, ev_oSome, sA, sB, ad1, ad2]
    · by_cases q1 : q = 1
      · simp only [if_neg q0, if_pos q1, ev_sSeq, ev_sAsg, ev_C, Res.thn_ok, ev_gNmS, ev_gNm0, Option.map_some, ev_eCall, ev_aCons, ev_aNil, ev_VarS, ev_Var0, Res.bind_ok, ev_e2, ev_eBi, ln, ev_addI, mx1, mx2, ixs, mx3, ev_sIf, ev_tOf, ev_eqI, decide_eq_false q0, decide_eq_true q1, ev_toB, Bool.false_eq_true, if_false, if_true, ev_sNil, ev_sRet, ev_eSl, ev_oNone, ev_oSome, sA, sC, ad3]
      · simp only [if_neg q0, if_neg q1, ev_sSeq, ev_sAsg, ev_C, Res.thn_ok, ev_gNmS, ev_gNm0, Option.map_some, ev_eCall, ev_aCons, ev_aNil, ev_VarS, ev_Var0, Res.bind_ok, ev_e2, ev_eBi, ln, ev_addI, mx1, mx2, ixs, mx3, ev_sIf, ev_tOf, ev_eqI, decide_eq_false q0, decide_eq_false q1, ev_toB, Bool.false_eq_true, if_false, ev_sNil, ev_sRet, ev_eSl, ev_oNone, ev_oSome, sA, sC, ad1, ad4]
  · split
    · simp; omega
    · split <;> (simp; omega)
  · have one : ∀ c ∈ [sn], c < 1114112 := fun c hc => by simp at hc; omega
    have app : ∀ (y z : List Nat), (∀ c ∈ y, c < 1114112) → (∀ c ∈ z, c < 1114112) → ∀ c ∈ y ++ z, c < 1114112 := fun y z hy hz c hc => (List.mem_append.mp hc).elim (hy c) (hz c)
    split
    · exact app _ _ (app _ _ (ot _) one) (od _)
    · split
      · exact app _ _ (ot _) (od _)
      · exact app _ _ (app _ _ (ot _) one) (od _)
theorem sd_marks {xs : List Wd} (h : List.Pairwise (fun a b => DatumOrd.lt a b = true) (xs.map (·.1))) : Sd xs := by
  refine sd_of_pw ((List.pairwise_map.mp h).imp fun {a b} hab => ?_)
  have ne : a.1 ≠ b.1 := fun e => by rw [e, lt_irr] at hab; cases hab
  rw [lt_pair, if_neg ne]
  exact hab
theorem gw_set {j : Nat} {ks : List Mk} {xs : List Wd} (g : Gw j ks xs) {i : Nat} {m : Mk} {t t' : Str} (hi : xs[i]? = some (m, t)) (ht : rightB j (.str t') = true) (ok : PyData.strOk t' = true) : Gw j ks (xs.set i (m, t')) := by
  have mp : (xs.set i (m, t')).map (·.1) = xs.map (·.1) := by
    rw [List.map_set]
    apply List.ext_getElem?
    intro k
    rw [List.getElem?_set]
    by_cases c : i = k
    · subst c
      have lk := (List.getElem?_eq_some_iff.mp hi).1
      rw [if_pos rfl, if_pos (by simpa using lk), List.getElem?_map, hi]; rfl
    · rw [if_neg c]
  have mem : ∀ p ∈ xs.set i (m, t'), p = (m, t') ∨ p ∈ xs := fun p hp => (List.mem_or_eq_of_mem_set hp).symm
  have hm := List.mem_of_getElem? hi
  refine ⟨by rw [mp]; exact g.nd, sd_marks (by rw [mp]; exact marks_pw g.sd g.nd), fun p hp => ?_, fun p hp => ?_, fun p hp => ?_, fun p hp => ?_⟩
  · rcases mem p hp with rfl | h
    · exact g.wi (m, t) hm
    · exact g.wi p h
  · rcases mem p hp with rfl | h
    · exact g.rg (m, t) hm
    · exact g.rg p h
  · rcases mem p hp with rfl | h
    · exact ok
    · exact g.ok p h
  · rcases mem p hp with rfl | h
    · exact ht
    · exact g.ri p h
def setT (F : Fl) (i : Nat) (p : Wd) : Fl := ⟨F.id, F.first, F.known, F.names, F.texts.set i p⟩
theorem gd_setT {n : Nat} {F : Fl} (g : Gd n F) {i : Nat} {m : Mk} {t t' : Str} (hi : F.texts[i]? = some (m, t)) (ht : isText (.str t') = true) (ok : PyData.strOk t' = true) : Gd n (setT F i (m, t')) :=
  ⟨g.id, g.first, g.fok, g.known, g.own, g.names, gw_set g.texts hi ht ok, g.ln, by show (F.texts.set i (m, t')).length ≤ n; rw [List.length_set]; exact g.lt⟩
theorem chg_loop {ns : List Int} {k : Nat} {x : List Nat} (hx : x.length ≤ 500) (ho : ∀ c ∈ x, c < 1114112) {a2 a3 a5 a6 a7 a8 a9 a10 a11 a12 : Option Val} {h : HM} :
    ∃ y g b5, forL (srcItems (intsV 0 3)) (gNm 5) m_law_k20_f1 (srcItems (intsV 0 3)).len 0 [some (.scr ns), some (.int (k : Nat)), a2, a3, some (.str (sg x)), a5, a6, a7, a8, a9, a10, a11, a12] h = .nx [some (.scr ns), some (.int (k : Nat)), a2, a3, some (.str (sg y)), b5, a6, a7, a8, a9, a10, a11, a12] (h ++ g) := by
  obtain ⟨l', h', e, y, g, b5, rfl, rfl, -, -⟩ := for_inv (xs := intsV 0 3) (g := gNm 5) (b := m_law_k20_f1) (l := [some (.scr ns), some (.int (k : Nat)), a2, a3, some (.str (sg x)), a5, a6, a7, a8, a9, a10, a11, a12]) (h := h)
    (fun r l' h' => ∃ (y : List Nat) (g : HM) (b5 : Option Val), l' = [some (.scr ns), some (.int (k : Nat)), a2, a3, some (.str (sg y)), b5, a6, a7, a8, a9, a10, a11, a12] ∧ h' = h ++ g ∧ y.length ≤ x.length + r ∧ ∀ c ∈ y, c < 1114112)
    ⟨x, [], a5, rfl, by simp, by simp, ho⟩ (by
    rintro r v l' h' hv ⟨y, g, b5, rfl, rfl, ly, oy⟩
    obtain ⟨hr, rfl⟩ := intsV_get hv
    rw [Int.zero_add]
    have c4 : ∀ h, m_law_cell [.scr ns, .int (4 + (r : Nat))] h = .ok (.int (cell ns (4 + (r : Nat)))) h := fun h => at_cell' (by omega)
    have mu : ∀ h, vMul (.int 13) (.int (r : Nat)) h = .ok (.int (13 * (r : Nat))) h := fun h => ev_mulI (by left; omega)
    obtain ⟨z, e1, lz, oz⟩ := at_changed (c := cell ns (4 + (r : Nat)) + 13 * (r : Nat) + (k : Nat)) (h := h ++ g) (by omega) oy
    obtain ⟨g2, e2⟩ := at_isTold (h := h ++ g) (x := z) (by omega) oz
    refine ⟨[some (.scr ns), some (.int (k : Nat)), a2, a3, some (.str (sg y)), some (.int (r : Nat)), a6, a7, a8, a9, a10, a11, a12], [some (.scr ns), some (.int (k : Nat)), a2, a3, some (.str (sg z)), some (.int (r : Nat)), a6, a7, a8, a9, a10, a11, a12], h ++ g ++ g2, rfl, ?_, z, g ++ g2, some (.int (r : Nat)), rfl, by simp, by omega, oz⟩
    unfold m_law_k20_f1
    simp only [ev_sSeq, ev_sAsg, ev_eCall, ev_aCons, ev_aNil, ev_e2, ev_VarS, ev_Var0, ev_C, Res.bind_ok, ev_addI, c4, mu, e1, Res.thn_ok, ev_gNmS, ev_gNm0, Option.map_some, ev_sIf, ev_tNot, ev_tTru, e2, ev_truB, Bool.not_true, Bool.false_eq_true, if_false, ev_sNil])
  exact ⟨y, g, b5, e⟩
theorem eqDr : Str.ofString ";,:.=01ab" = sg [59, 44, 58, 46, 61, 48, 49, 97, 98] := by decide +kernel
theorem drawn_told {c : Int} {l : Loc} {h : HM} (many : Int) (m0 : 0 ≤ many) (m12 : many < 12) (hl : ∃ a0 a1 a3 a4 a5 a7 a8 a9 a10 a11 a12, l = [a0, a1, some (.int c), a3, a4, a5, some (.int many), a7, a8, a9, a10, a11, a12]) :
    ∃ g, (eCall m_law_is_told_v2 (aCons (eBm .str mJoin (eC (.str (sg []))) (aCons (eLc (iArgs rng1 (aCons (eVar 6) (aNil))) (gNm 7) (tYesM) (e2 vIx (eC (.str (sg [59, 44, 58, 46, 61, 48, 49, 97, 98]))) (eCall m_law_mix (aCons (e2 vAdd (eVar 2) (e2 vMul (eC (.int 3)) (eVar 7))) (aCons (eC (.int 9787)) (aCons (eC (.int 9)) (aNil)))))) [7] frozen) (aNil))) (aNil))) l h = .ok (.bl true) (h ++ g) := by
  obtain ⟨a0, a1, a3, a4, a5, a7, a8, a9, a10, a11, a12, rfl⟩ := hl
  have r4 : ∀ h, rng1 [.int many] h = .ok (srcItems (intsV 0 many.toNat)) h := fun h => ev_rng1 (by omega)
  obtain ⟨L, hL⟩ : ∃ L, L = [59, 44, 58, 46, 61, 48, 49, 97, 98] := ⟨_, rfl⟩
  have lL : L.length = 9 := by rw [hL]; rfl
  obtain ⟨f, hf⟩ : ∃ f : Nat → Nat, f = fun (k : Nat) => pick L (mix (c + 3 * (k : Nat)) 9787 9) := ⟨_, rfl⟩
  have lc : lcL (srcItems (intsV 0 many.toNat)) (gNm 7) tYesM (e2 vIx (eC (.str (sg L))) (eCall m_law_mix (aCons (e2 vAdd (eVar 2) (e2 vMul (eC (.int 3)) (eVar 7))) (aCons (eC (.int 9787)) (aCons (eC (.int 9)) (aNil)))))) [a0, a1, some (.int c), a3, a4, a5, some (.int many), none, a8, a9, a10, a11, a12] (srcItems (intsV 0 many.toNat)).len 0 h [] = .ok ((List.range many.toNat).map fun k => .str (sg [f k])) h := by
    refine lc_range (n := many.toNat) (fun k => .str (sg [f k])) (fun k hk => ⟨[a0, a1, some (.int c), a3, a4, a5, some (.int many), some (.int (0 + (k : Nat))), a8, a9, a10, a11, a12], rfl, ?_⟩) (by rw [sizeLine_eq]; omega)
    have mu : ∀ h, vMul (.int 3) (.int (k : Nat)) h = .ok (.int (3 * (k : Nat))) h := fun h => ev_mulI (by left; omega)
    have mx : ∀ h, m_law_mix [.int (c + 3 * (k : Nat)), .int 9787, .int 9] h = .ok (.int (mix (c + 3 * (k : Nat)) 9787 9)) h := fun h => at_mix (by decide) (by decide)
    have ix : ∀ h, vIx (.str (sg L)) (.int (mix (c + 3 * (k : Nat)) 9787 9)) h = .ok (.str (sg [f k])) h := fun h => by
      rw [hf]
      exact ix_str (by omega) (mix_nn (by decide)) (by rw [lL]; exact mix_lt (by decide))
    rw [Int.zero_add]
    simp only [ev_e2, ev_C, ev_eCall, ev_aCons, ev_aNil, ev_VarS, ev_Var0, Res.bind_ok, mu, ev_addI, mx, ix]
  obtain ⟨x, hx⟩ : ∃ x, x = (List.range many.toNat).map f := ⟨_, rfl⟩
  have xl : x.length ≤ 12 := by rw [hx]; simp; omega
  have ox : ∀ c ∈ x, c < 1114112 := fun d hd => by
    rw [hx] at hd
    obtain ⟨k, _, rfl⟩ := List.mem_map.mp hd
    rw [hf]
    have := pick_mem (L := L) (i := mix (c + 3 * (k : Nat)) 9787 9) (mix_nn (by decide)) (by rw [lL]; exact mix_lt (by decide))
    have key : ∀ c ∈ [59, 44, 58, 46, 61, 48, 49, 97, 98], c < 1114112 := by decide
    rw [hL] at this ⊢
    exact key _ this
  have jn : ∀ h, mJoin (.str (sg [])) [.lst ((List.range many.toNat).map fun k => .str (sg [f k]))] h = .ok (.str (sg x)) h := fun h => by
    have := join_ok (cs := x) (h := h) (by omega)
    rw [hx, List.map_map] at this
    rw [hx]; exact this
  obtain ⟨g, e⟩ := at_isTold (h := h) (x := x) (by omega) ox
  refine ⟨g, ?_⟩
  rw [← hL]
  simp only [ev_eCall, ev_aCons, ev_aNil, ev_eBm, ev_C, ev_kdS, if_true, Res.bind_ok, ev_eLc, ev_iArgs, ev_VarS, ev_Var0, r4, wipeL, List.set, lc, ev_frozen, jn, e]
theorem txt_loop {c : Int} {F : Fl} (g0 : Gd 3 F) (low : Low F) {a0 a1 a4 a5 a6 a7 a8 a9 a10 a11 a12 : Option Val} {h : HM} :
    ∃ g b7 b8 b9 b10 b11 b12, forL (srcItems (numbered 0 (F.texts.map eW))) (gTp 2 (gsCons (gNm 7) (gsCons (gTp 2 (gsCons (gNm 8) (gsCons (gNm 9) (gsNil)))) (gsNil)))) m_law_k20_f2 (srcItems (numbered 0 (F.texts.map eW))).len 0 [a0, a1, some (.int c), some (eP F), a4, a5, a6, a7, a8, a9, a10, a11, a12] h = .nx [a0, a1, some (.int c), some (eP F), a4, a5, a6, b7, b8, b9, b10, b11, b12] (h ++ g) := by
  obtain ⟨l', h', e, g, b7, b8, b9, b10, b11, b12, rfl, rfl⟩ := for_inv (xs := numbered 0 (F.texts.map eW)) (g := gTp 2 (gsCons (gNm 7) (gsCons (gTp 2 (gsCons (gNm 8) (gsCons (gNm 9) (gsNil)))) (gsNil)))) (b := m_law_k20_f2) (l := [a0, a1, some (.int c), some (eP F), a4, a5, a6, a7, a8, a9, a10, a11, a12]) (h := h)
    (fun r l' h' => ∃ (g : HM) (b7 b8 b9 b10 b11 b12 : Option Val), l' = [a0, a1, some (.int c), some (eP F), a4, a5, a6, b7, b8, b9, b10, b11, b12] ∧ h' = h ++ g)
    ⟨[], a7, a8, a9, a10, a11, a12, rfl, by simp⟩ (by
    rintro r v l' h' hv ⟨g, b7, b8, b9, b10, b11, b12, rfl, rfl⟩
    rw [numbered_get, Nat.zero_add, List.getElem?_map, Option.map_eq_some_iff] at hv
    obtain ⟨y, hy, rfl⟩ := hv
    rw [Option.map_eq_some_iff] at hy
    obtain ⟨p, hp, rfl⟩ := hy
    obtain ⟨m, t0⟩ := p
    have pm := List.mem_of_getElem? hp
    have tis := ist_of (g0.texts.ri _ pm)
    have tok : PyData.strOk t0 = true := g0.texts.ok _ pm
    obtain ⟨t, rfl⟩ : ∃ t, t0 = sg t := ⟨tl t0, (sg_tl t0).symm⟩
    have tl60 : t.length ≤ 60 := by simpa using tis
    have ot : ∀ c ∈ t, c < 1114112 := by
      have := strOk_tl tok
      rwa [tl_sg] at this
    have rl := (List.getElem?_eq_some_iff.mp hp).1
    have l3 := g0.lt
    have ln : ∀ h, bLen [.str (sg t)] h = .ok (.int (t.length : Nat)) h := fun h => lenSg (by omega)
    obtain ⟨a, ha⟩ : ∃ a, a = mix (c + (r : Nat)) 9769 ((t.length : Nat) + 1) := ⟨_, rfl⟩
    have q0 : 0 ≤ a := by rw [ha]; exact mix_nn (by omega)
    have mx : ∀ h, m_law_mix [.int (c + (r : Nat)), .int 9769, .int ((t.length : Nat) + 1)] h = .ok (.int a) h := fun h => by rw [at_mix (by decide) (by omega), ha]
    have un : gTp 2 (gsCons (gNm 7) (gsCons (gTp 2 (gsCons (gNm 8) (gsCons (gNm 9) (gsNil)))) (gsNil))) (.tup [.int (r : Nat), eW (m, sg t)]) [a0, a1, some (.int c), some (eP F), a4, a5, a6, b7, b8, b9, b10, b11, b12] = some [a0, a1, some (.int c), some (eP F), a4, a5, a6, some (.int (r : Nat)), some (eM m), some (.str (sg t)), b10, b11, b12] := rfl
    by_cases la : a < (t.length : Nat)
    · obtain ⟨t', ht'⟩ : ∃ t', t' = t.take a.toNat ++ [59] ++ t.drop (a + 1).toNat := ⟨_, rfl⟩
      have lt' : t'.length ≤ 60 := by rw [ht']; simp; omega
      have ot' : ∀ c ∈ t', c < 1114112 := fun d hd => by
        rw [ht'] at hd
        simp only [List.mem_append, List.mem_singleton] at hd
        rcases hd with (h1 | h1) | h1
        · exact ot d (List.mem_of_mem_take h1)
        · omega
        · exact ot d (List.mem_of_mem_drop h1)
      obtain ⟨F', hF'⟩ : ∃ F', F' = setT F r (m, sg t') := ⟨_, rfl⟩
      have g' : Gd 3 F' := by rw [hF']; exact gd_setT g0 hp (by simpa using lt') (strOk_sg ot')
      have low' : Low F' := by rw [hF']; exact low
      have pr := g'.pr low'
      have wr := g'.wr (by decide) low'
      have okf := g'.okF
      have gl := g'.len low'
      have rX := readX_wr pr g'.goodB
      have oW := wrL_ok okf
      have sA : ∀ h, vSl (.str (sg t)) none (some a) h = .ok (.str (sg (t.take a.toNat))) h := fun h => by rw [sl_sg (by omega), cutL_to q0]
      have sC : ∀ h, vSl (.str (sg t)) (some (a + 1)) none h = .ok (.str (sg (t.drop (a + 1).toNat))) h := fun h => by rw [sl_sg (by omega), cutL_from (by omega)]
      have ad1 : ∀ h, vAdd (.str (sg (t.take a.toNat))) (.str (sg [59])) h = .ok (.str (sg (t.take a.toNat ++ [59]))) h := fun h => addS (by simp; omega)
      have ad2 : ∀ h, vAdd (.str (sg (t.take a.toNat ++ [59]))) (.str (sg (t.drop (a + 1).toNat))) h = .ok (.str (sg t')) h := fun h => by rw [ht']; exact addS (by simp; omega)
      have x4 : ∀ h, vIx (eP F) (.int 4) h = .ok (.tup (F.texts.map eW)) h := fun h => rfl
      have s1 : ∀ h, vSl (.tup (F.texts.map eW)) none (some (r : Nat)) h = .ok (.tup ((F.texts.map eW).take r)) h := fun h => by
        show Res.ok (Val.tup (cutL _ none (some ((r : Nat) : Int)))) h = _
        rw [cutL_to (by omega), Int.toNat_natCast]
      have s2 : ∀ h, vSl (.tup (F.texts.map eW)) (some ((r : Nat) + 1)) none h = .ok (.tup ((F.texts.map eW).drop (r + 1))) h := fun h => by
        show Res.ok (Val.tup (cutL _ (some (((r : Nat) : Int) + 1)) none)) h = _
        rw [cutL_from (by omega)]
        have : (((r : Nat) : Int) + 1).toNat = r + 1 := by omega
        rw [this]
      have m1 : ∀ (p : Val) h, mkTup [p] h = .ok (.tup [p]) h := fun p h => ev_mkTup (by simp)
      have m2 : ∀ h, mkTup [eM m, .str (sg t')] h = .ok (eW (m, sg t')) h := fun h => ev_mkTup (by simp)
      have ad3 : ∀ h, vAdd (.tup ((F.texts.map eW).take r)) (.tup [eW (m, sg t')]) h = .ok (.tup ((F.texts.map eW).take r ++ [eW (m, sg t')])) h := fun h => addT (by simp; omega)
      have ad4 : ∀ h, vAdd (.tup ((F.texts.map eW).take r ++ [eW (m, sg t')])) (.tup ((F.texts.map eW).drop (r + 1))) h = .ok (.tup (F'.texts.map eW)) h := fun h => by
        have e : F'.texts.map eW = (F.texts.map eW).take r ++ [eW (m, sg t')] ++ (F.texts.map eW).drop (r + 1) := by
          rw [hF']
          show (F.texts.set r (m, sg t')).map eW = _
          rw [List.set_eq_take_append_cons_drop, if_pos rl, List.map_append, List.map_cons, List.map_take, List.map_drop]
          simp
        rw [e]; exact addT (by simp; omega)
      have s4 : ∀ h, vSl (eP F) none (some 4) h = .ok (.tup [eM F.id, .str F.first, .ptup (F.known.map eM), .tup (F.names.map eW)]) h := fun h => by
        show Res.ok (Val.tup (cutL _ none (some 4))) h = _
        rw [cutL_to (by decide)]; rfl
      have ad5 : ∀ h, vAdd (.tup [eM F.id, .str F.first, .ptup (F.known.map eM), .tup (F.names.map eW)]) (.tup [.tup (F'.texts.map eW)]) h = .ok (eP F') h := fun h => by
        rw [addT (by simp), hF']; rfl
      have lw : ∀ h, m_law_written [eP F'] h = .ok (.str (sg (wrL F'))) h := fun h => at_lawWritten wr rfl
      obtain ⟨g2, e3⟩ := at_readX (h := h ++ g) (by omega) oW rX
      rw [toX_ok] at e3
      have sm : ∀ h, s_law_same [eT F', eP F'] h = .ok (.bl true) h := fun h => same_eT wr okf rfl rfl h
      have dl : decide (a < ((t.length : Nat) : Int)) = true := decide_eq_true la
      refine ⟨_, [a0, a1, some (.int c), some (eP F), a4, a5, a6, some (.int (r : Nat)), some (eM m), some (.str (sg t)), some (.int a), some (eW (m, sg t')), some (.tup (F'.texts.map eW))], h ++ g ++ g2, un, ?_, g ++ g2, some (.int (r : Nat)), some (eM m), some (.str (sg t)), some (.int a), some (eW (m, sg t')), some (.tup (F'.texts.map eW)), rfl, by simp⟩
      generalize eP F = fv at *
      generalize eP F' = fv' at *
      generalize eT F' = ft' at *
      generalize eW (m, sg t') = pv at *
      generalize eM m = mv at *
      unfold m_law_k20_f2
      rw [eq59]
      simp only [ev_sSeq, ev_sAsg, ev_eCall, ev_aCons, ev_aNil, ev_e2, ev_VarS, ev_Var0, ev_C, Res.bind_ok, ev_addI, ev_eBi, ln, mx, Res.thn_ok, ev_gNmS, ev_gNm0, Option.map_some, ev_sIf, ev_tOf, ev_ltI, dl, ev_toB, if_true, ev_eDisp, ev_eSl, ev_oNone, ev_oSome, sA, sC, ad1, ad2, m2, x4, s1, s2, m1, ad3, ad4, s4, ad5, lw, e3, sm, ev_tNot, ev_tTru, ev_truB, Bool.not_true, Bool.false_eq_true, if_false, ev_sNil]
    · have dl : decide (a < ((t.length : Nat) : Int)) = false := decide_eq_false la
      refine ⟨_, [a0, a1, some (.int c), some (eP F), a4, a5, a6, some (.int (r : Nat)), some (eM m), some (.str (sg t)), some (.int a), b11, b12], h ++ g, un, ?_, g, some (.int (r : Nat)), some (eM m), some (.str (sg t)), some (.int a), b11, b12, rfl, rfl⟩
      unfold m_law_k20_f2
      simp only [ev_sSeq, ev_sAsg, ev_eCall, ev_aCons, ev_aNil, ev_e2, ev_VarS, ev_Var0, ev_C, Res.bind_ok, ev_addI, ev_eBi, ln, mx, Res.thn_ok, ev_gNmS, ev_gNm0, Option.map_some, ev_sIf, ev_tOf, ev_ltI, dl, ev_toB, Bool.false_eq_true, if_false, ev_sNil])
  exact ⟨g, b7, b8, b9, b10, b11, b12, e⟩
theorem low_lfile {c seed : Int} {w : Mk} {x : Str} (hw : w.2 ≤ 13) (hw0 : 0 ≤ w.2) : Low (lfile c w x seed) := by
  intro m hm
  have hm : m ∈ lknown c w := hm
  rw [lknown_mem hw0] at hm
  obtain ⟨j, hj, _, rfl⟩ := hm
  have := mix_lt (c := c + 31 * (j : Nat)) (p := 9907) (m := 3) (by decide)
  unfold knownN
  dsimp only
  split <;> omega
theorem lwhich13 (c : Int) : (lwhich c).2 ≤ 13 := by
  have d := mix_nn (c := c) (p := 9859) (m := 4) (by decide)
  have d2 := mix_lt (c := c) (p := 9859) (m := 4) (by decide)
  unfold lwhich
  dsimp only
  omega
theorem law_ok (ns : List Int) (hns : ns.length ≤ 63) : ∃ h0, m_law_k20 [.scr ns] [] = .ok (.bl true) h0 := by
  obtain ⟨l', h', e, b1, b2, b3, b4, b5, b6, b7, b8, b9, b10, b11, b12, rfl⟩ := for_inv (xs := intsV 0 4) (g := gNm 1) (b := m_law_k20_f0) (l := [some (.scr ns), none, none, none, none, none, none, none, none, none, none, none, none]) (h := [])
    (fun i l h => ∃ b1 b2 b3 b4 b5 b6 b7 b8 b9 b10 b11 b12, l = [some (.scr ns), b1, b2, b3, b4, b5, b6, b7, b8, b9, b10, b11, b12]) ⟨_, _, _, _, _, _, _, _, _, _, _, _, rfl⟩ (by
    rintro k v l h hx ⟨b1, b2, b3, b4, b5, b6, b7, b8, b9, b10, b11, b12, rfl⟩
    obtain ⟨hk, rfl⟩ := intsV_get hx
    rw [Int.zero_add]
    have k0 : ∀ h, m_law_cell [.scr ns, .int (k : Nat)] h = .ok (.int (cell ns (k : Nat))) h := fun h => at_cell' (by omega)
    have k1 : ∀ h, m_law_cell [.scr ns, .int ((k : Int) + 1)] h = .ok (.int (cell ns ((k : Int) + 1))) h := fun h => at_cell' (by omega)
    generalize cell ns (k : Nat) = c at *
    generalize cell ns ((k : Int) + 1) = c1 at *
    have w0 : 0 ≤ (lwhich (c + 1)).1 ∧ (lwhich (c + 1)).1 < 6 := (which_ok (c + 1)).1
    have w1 : 0 < (lwhich (c + 1)).2 := (which_ok (c + 1)).2
    have wl := lwhich13 (c + 1)
    have kw : ∀ h, m_law_which [.int (c + 1)] h = .ok (eM (lwhich (c + 1))) h := fun h => at_which'
    generalize lwhich (c + 1) = w at w0 w1 kw wl
    have kn : ∀ h, m_law_name [.int (c + 2)] h = .ok (.str (sg (lname (c + 2)))) h := fun h => at_name
    have nx := isName_lname (c + 2)
    have ox := lname_ok (c + 2)
    generalize lname (c + 2) = x at kn nx ox
    have kf : ∀ h, m_law_file [.int c, eM w, .str (sg x), .int c1] h = .ok (eP (lfile c w (sg x) c1)) h := fun h => at_file w0 w1
    have g := lfile_gd (c := c) (seed := c1) w0 w1 nx ox
    have low := low_lfile (c := c) (x := sg x) (seed := c1) wl (by omega)
    generalize lfile c w (sg x) c1 = F at *
    have lw : ∀ h, m_law_written [eP F] h = .ok (.str (sg (wrL F))) h := fun h => at_lawWritten (g.wr (by decide) low) rfl
    have gl := g.len low
    obtain ⟨y, g1, d5, e1⟩ := chg_loop (ns := ns) (k := k) (x := wrL F) (by omega) (wrL_ok g.okF) (a2 := some (.int c)) (a3 := some (eP F)) (a5 := b5) (a6 := b6) (a7 := b7) (a8 := b8) (a9 := b9) (a10 := b10) (a11 := b11) (a12 := b12) (h := h)
    obtain ⟨many, hmany⟩ : ∃ many, many = mix c 9781 12 := ⟨_, rfl⟩
    have mm0 : 0 ≤ many := by rw [hmany]; exact mix_nn (by decide)
    have mm1 : many < 12 := by rw [hmany]; exact mix_lt (by decide)
    have mx : ∀ h, m_law_mix [.int c, .int 9781, .int 12] h = .ok (.int many) h := fun h => by rw [at_mix (by decide) (by decide), hmany]
    obtain ⟨g2, e2'⟩ := drawn_told (c := c) (l := [some (.scr ns), some (.int (k : Nat)), some (.int c), some (eP F), some (.str (sg y)), d5, some (.int many), b7, b8, b9, b10, b11, b12]) (h := h ++ g1) many mm0 mm1 ⟨_, _, _, _, _, _, _, _, _, _, _, rfl⟩
    obtain ⟨g3, d7, d8, d9, d10, d11, d12, e3⟩ := txt_loop (c := c) g low (a0 := some (.scr ns)) (a1 := some (.int (k : Nat))) (a4 := some (.str (sg y))) (a5 := d5) (a6 := some (.int many)) (a7 := b7) (a8 := b8) (a9 := b9) (a10 := b10) (a11 := b11) (a12 := b12) (h := h ++ g1 ++ g2)
    have x4 : ∀ h, vIx (eP F) (.int 4) h = .ok (.tup (F.texts.map eW)) h := fun h => rfl
    have en : ∀ h, enumT [.tup (F.texts.map eW)] h = .ok (srcItems (numbered 0 (F.texts.map eW))) h := fun h => rfl
    have r3 : ∀ h, rng1 [.int 3] h = .ok (srcItems (intsV 0 3)) h := fun h => ev_rng1 (by omega)
    refine ⟨[some (.scr ns), some (.int (k : Nat)), b2, b3, b4, b5, b6, b7, b8, b9, b10, b11, b12], [some (.scr ns), some (.int (k : Nat)), some (.int c), some (eP F), some (.str (sg y)), d5, some (.int many), d7, d8, d9, d10, d11, d12], h ++ g1 ++ g2 ++ g3, rfl, ?_, _, _, _, _, _, _, _, _, _, _, _, _, rfl⟩
    generalize eP F = fv at *
    unfold m_law_k20_f0
    rw [none_eq, eqDr]
    have tif : ∀ (E : EM) (L : Loc) (h h2 : HM), E L h = .ok (.bl true) h2 → sIf (tNotM (tTru E)) (sRet (eC (.bl false))) sNil L h = .nx L h2 := fun E L h h2 he => by
      simp only [ev_sIf, ev_tNot, ev_tTru, he, Res.bind_ok, ev_truB, Bool.not_true, Res.thn_ok, Bool.false_eq_true, if_false, ev_sNil]
    simp only [ev_sSeq, ev_sAsg, ev_VarS, ev_Var0, ev_C, Res.bind_ok, ev_eCall, k0, k1, ev_addI, kw, kn, kf, lw, Res.thn_ok, ev_gNmS, ev_gNm0, Option.map_some, ev_sFor, ev_iArgs, r3, e1, mx, ev_e2, tif _ _ _ _ e2', ev_aCons, ev_aNil, x4, en, e3])
  refine ⟨h', ?_⟩
  unfold m_law_k20 mF
  simp [ev_rng1 (show -(2 ^ 62) ≤ (4 : Int) ∧ (4 : Int) < 2 ^ 62 by decide)]
  rw [e]
end
end MM
namespace MM
open PySem PySem.Spec PyProof.Rows L2
/-- a law that calls defs that may let errors out, but lets none out itself -/
theorem walk_ofW {l : PySem.W.OpenLaw} {n k : Nat} {q : Program} {loose : List Str} {XP : (Str → Option Value) → Heap → Prop} {YP : World → Heap → Prop} {d : DefRec} {x : Str}
    (hn : l.most = some n) (hn2 : n ≤ sizeLine) (hdf : d.params.defaults = []) (hr : Room k callerA)
    (F : ∀ (w : World) (mg : Str → Option Value) (fa : Addr) (h : Heap), YP w h → h.Ns mainGlobals mg → mg d.name = some (.ref fa) →
      ∃ (K : PySem.W.Frag) (fd : FuncData) (sp : Sp), K.In h ∧ (∀ (s : Shared) (u : Value), BindsTo s fd ⟨[u], []⟩ [(x, u)]) ∧
        (∀ (H : Hp) (a : Addr) (ns : List Int), ns.length ≤ n → Only H → SqL K H a (ns.map V.int) → sp [.ref a] H (fun v _ => v = .bl true) fun _ _ _ => False) ∧
        ∀ base : Heap, K.In base → base.Ns mainGlobals mg → FnOk l.prog w K mg base (L2.CX l.prog w) k fa fd [x] sp) :
    PySem.W.WalkO q loose XP YP l.row.toRowW d [] (fun f vs => PySem.call f vs) := by
  refine Att.attach_call hn hdf fun w s₀ s₁ mg mb fa o pm cd doc a vs ns G Y ho hd hcd hmg hobj hints hlen hg => ?_
  obtain ⟨K, fd, sp, KX, hb, hsp, hF⟩ := F w mg fa _ Y G.T.g hmg
  exact law_call KX G.T.g G.T.b G.T.builtins G.T.nolimit hg hobj hints (Nat.le_trans hlen hn2) hr hF hb (fun H hO hS => hsp H a ns hlen hO hS) fun H e s' ⟨_, _, _, _, _, _, _, _, _, _, _, _, z⟩ => z
end MM
namespace MM
open PySem L2
/-- a def of which nothing is told -/
theorem FnM.bad {P : Program} {w : World} {K : PySem.W.Frag} {mg : Str → Option Value} {base : Heap} {G : Glob} {f : Addr} {x qual : Str} {params : Arguments} {body : List Stmt} {scope : Scope} {fd : FuncData} {N ps : List Str} (F : FunD K x qual params body scope [] [] f fd) (S : FnScope N ps scope)
    (hb : ∀ (kV doc pm : Value) (an : Option Addr) (cdv ct : Value) (us : List Value), us.length = ps.length → bindArgs (PySem.W.fnOf x qual params body scope .none kV doc pm an cdv ct) ⟨us, []⟩ = pure (ps.zip us)) : FnM P w K mg base G 0 f ps.length (fun _ _ => .bad) := by
  refine ⟨fd, ps, ⟨fun vs H Q E h => h.1, fun A outer s H args us vs Q E hr he hbd rv h => ?_⟩, F.bindsN hb, F.kp⟩
  obtain ⟨_, r, h1, xs, q, z, p⟩ := h
  exact p.elim
end MM
namespace LW
open PySem L2 MM
structure Env (K : PySem.W.Frag) (mg : Str → Option Value) : Prop where
  g__law_cell : mg "_law_cell" = some (.ref (He.ga K "_law_cell"))
  g__law_mix : mg "_law_mix" = some (.ref (He.ga K "_law_mix"))
  g__law_known : mg "_law_known" = some (.ref (He.ga K "_law_known"))
  g__law_name : mg "_law_name" = some (.ref (He.ga K "_law_name"))
  g__law_text : mg "_law_text" = some (.ref (He.ga K "_law_text"))
  g__law_marked : mg "_law_marked" = some (.ref (He.ga K "_law_marked"))
  g__law_file : mg "_law_file" = some (.ref (He.ga K "_law_file"))
  g__law_mark : mg "_law_mark" = some (.ref (He.ga K "_law_mark"))
  g__law_written : mg "_law_written" = some (.ref (He.ga K "_law_written"))
  g__law_which : mg "_law_which" = some (.ref (He.ga K "_law_which"))
  g__law_changed : mg "_law_changed" = some (.ref (He.ga K "_law_changed"))
  g_number_of : mg "number_of" = some (.ref (He.ga K "number_of"))
  g_mark_of : mg "mark_of" = some (.ref (He.ga K "mark_of"))
  g_texts_at : mg "texts_at" = some (.ref (He.ga K "texts_at"))
  g_named : mg "named" = some (.ref (He.ga K "named"))
  g_listed : mg "listed" = some (.ref (He.ga K "listed"))
  g_is_rising : mg "is_rising" = some (.ref (He.ga K "is_rising"))
  g_is_within : mg "is_within" = some (.ref (He.ga K "is_within"))
  g_has_heard : mg "has_heard" = some (.ref (He.ga K "has_heard"))
  g_is_number : mg "is_number" = some (.ref (He.ga K "is_number"))
  g_is_mark : mg "is_mark" = some (.ref (He.ga K "is_mark"))
  g_is_name : mg "is_name" = some (.ref (He.ga K "is_name"))
  g_is_text : mg "is_text" = some (.ref (He.ga K "is_text"))
  g_are_marked : mg "are_marked" = some (.ref (He.ga K "are_marked"))
  g_is_known : mg "is_known" = some (.ref (He.ga K "is_known"))
  g_is_file : mg "is_file" = some (.ref (He.ga K "is_file"))
  g_mark_text : mg "mark_text" = some (.ref (He.ga K "mark_text"))
  g_written : mg "written" = some (.ref (He.ga K "written"))
  g_read : mg "read" = some (.ref (He.ga K "read"))
  g__law_read : mg "_law_read" = some (.ref (He.ga K "_law_read"))
  g__law_same : mg "_law_same" = some (.ref (He.ga K "_law_same"))
  g__law_is_told : mg "_law_is_told" = some (.ref (He.ga K "_law_is_told"))
  g_law : mg "law" = some (.ref (He.ga K "law"))
  n_len : mg "len" = none
  n_isinstance : mg "isinstance" = none
  n_all : mg "all" = none
  n_any : mg "any" = none
  n_range : mg "range" = none
  n_sorted : mg "sorted" = none
  n_tuple : mg "tuple" = none
  n_str : mg "str" = none
  n_int : mg "int" = none
  n_bool : mg "bool" = none
  n_zip : mg "zip" = none
  n_enumerate : mg "enumerate" = none
  LETTERS : ∃ t, mg "LETTERS" = some (.str "abcdefghijklmnopqrstuvwxyz" t)
  g_Reader : mg "Reader" = some (.ref (He.ga K "Reader"))
  c_Reader : Cls K (He.ga K "Reader")
  mk_Reader : Mk K (He.ga K "Reader") (He.ma K (He.ga K "Reader") "__init__")
  m_Reader_until : Meth K (He.ga K "Reader") "until" (He.ma K (He.ga K "Reader") "until")
  m_Reader_signs : Meth K (He.ga K "Reader") "signs" (He.ma K (He.ga K "Reader") "signs")
  na_Reader_text : NoAttr K (He.ga K "Reader") "text"
  na_Reader_place : NoAttr K (He.ga K "Reader") "place"
  g_ShelfError : mg "ShelfError" = some (.ref (He.ga K "ShelfError"))
  x_ShelfError : PySem.W.excIn K (He.ga K "ShelfError") He.veBase "ValueError.__new__" = true
  k_ShelfError : PySem.W.keepIn K (.ref (He.ga K "ShelfError")) = true
  sb_ShelfError : PySem.W.subIn K (.ref (He.ga K "ShelfError")) (.type "BaseException") = some true
  ty_ShelfError : PySem.W.typeIn K (.ref (He.ga K "ShelfError")) = some (.type "type")
  g_NoWriting : mg "NoWriting" = some (.ref (He.ga K "NoWriting"))
  x_NoWriting : PySem.W.excIn K (He.ga K "NoWriting") He.veBase "ValueError.__new__" = true
  k_NoWriting : PySem.W.keepIn K (.ref (He.ga K "NoWriting")) = true
  sb_NoWriting : PySem.W.subIn K (.ref (He.ga K "NoWriting")) (.type "BaseException") = some true
  ty_NoWriting : PySem.W.typeIn K (.ref (He.ga K "NoWriting")) = some (.type "type")
  em_ShelfError_ShelfError : PySem.W.exmOne K (.ref (He.ga K "ShelfError")) (.ref (He.ga K "ShelfError")) = some true
  em_NoWriting_ShelfError : PySem.W.exmOne K (.ref (He.ga K "NoWriting")) (.ref (He.ga K "ShelfError")) = some true
  ec_NoWriting : ExcC K (He.ga K "NoWriting")
  kt_NoWriting_NoWriting : PySem.W.kitOne K (.ref (He.ga K "NoWriting")) (.ref (He.ga K "NoWriting")) = some true
  D0 : ∃ fd, FunD K "_law_cell" "_law_cell" (defArgs s0) (defBody s0) (defScope s0) [] [] (He.ga K "_law_cell") fd
  D1 : ∃ fd, FunD K "_law_mix" "_law_mix" (defArgs s1) (defBody s1) (defScope s1) [] [] (He.ga K "_law_mix") fd
  D2 : ∃ fd, FunD K "_law_known" "_law_known" (defArgs s2) (defBody s2) (defScope s2) [] [] (He.ga K "_law_known") fd
  D3 : ∃ fd, FunD K "_law_name" "_law_name" (defArgs s3) (defBody s3) (defScope s3) [] [] (He.ga K "_law_name") fd
  D4 : ∃ fd, FunD K "_law_text" "_law_text" (defArgs s4) (defBody s4) (defScope s4) [] [] (He.ga K "_law_text") fd
  D5 : ∃ fd, FunD K "_law_marked" "_law_marked" (defArgs s5) (defBody s5) (defScope s5) [] [] (He.ga K "_law_marked") fd
  D6 : ∃ fd, FunD K "_law_file" "_law_file" (defArgs s6) (defBody s6) (defScope s6) [] [] (He.ga K "_law_file") fd
  D7 : ∃ fd, FunD K "_law_mark" "_law_mark" (defArgs s7) (defBody s7) (defScope s7) [] [] (He.ga K "_law_mark") fd
  D8 : ∃ fd, FunD K "_law_written" "_law_written" (defArgs s8) (defBody s8) (defScope s8) [] [] (He.ga K "_law_written") fd
  D9 : ∃ fd, FunD K "_law_which" "_law_which" (defArgs s9) (defBody s9) (defScope s9) [] [] (He.ga K "_law_which") fd
  D10 : ∃ fd, FunD K "_law_changed" "_law_changed" (defArgs s10) (defBody s10) (defScope s10) [] [] (He.ga K "_law_changed") fd
  D11 : ∃ fd, FunD K "__init__" "Reader.__init__" (defArgs s11) (defBody s11) (defScope s11) [] [] (He.ma K (He.ga K "Reader") "__init__") fd
  D12 : ∃ fd, FunD K "number_of" "number_of" (defArgs s12) (defBody s12) (defScope s12) [] [] (He.ga K "number_of") fd
  D13 : ∃ fd, FunD K "mark_of" "mark_of" (defArgs s13) (defBody s13) (defScope s13) [] [] (He.ga K "mark_of") fd
  D14 : ∃ fd, FunD K "until" "Reader.until" (defArgs s14) (defBody s14) (defScope s14) [] [] (He.ma K (He.ga K "Reader") "until") fd
  D15 : ∃ fd, FunD K "signs" "Reader.signs" (defArgs s15) (defBody s15) (defScope s15) [] [] (He.ma K (He.ga K "Reader") "signs") fd
  D16 : ∃ fd, FunD K "texts_at" "texts_at" (defArgs s16) (defBody s16) (defScope s16) [] [] (He.ga K "texts_at") fd
  D17 : ∃ fd, FunD K "named" "named" (defArgs s17) (defBody s17) (defScope s17) [] [] (He.ga K "named") fd
  D18 : ∃ fd, FunD K "listed" "listed" (defArgs s18) (defBody s18) (defScope s18) [] [] (He.ga K "listed") fd
  D19 : ∃ fd, FunD K "is_rising" "is_rising" (defArgs s19) (defBody s19) (defScope s19) [] [] (He.ga K "is_rising") fd
  D20 : ∃ fd, FunD K "is_within" "is_within" (defArgs s20) (defBody s20) (defScope s20) [] [] (He.ga K "is_within") fd
  D21 : ∃ fd, FunD K "has_heard" "has_heard" (defArgs s21) (defBody s21) (defScope s21) [] [] (He.ga K "has_heard") fd
  D22 : ∃ fd, FunD K "is_number" "is_number" (defArgs s22) (defBody s22) (defScope s22) [] [] (He.ga K "is_number") fd
  D23 : ∃ fd, FunD K "is_mark" "is_mark" (defArgs s23) (defBody s23) (defScope s23) [] [] (He.ga K "is_mark") fd
  D24 : ∃ fd, FunD K "is_name" "is_name" (defArgs s24) (defBody s24) (defScope s24) [] [] (He.ga K "is_name") fd
  D25 : ∃ fd, FunD K "is_text" "is_text" (defArgs s25) (defBody s25) (defScope s25) [] [] (He.ga K "is_text") fd
  D26 : ∃ fd, FunD K "are_marked" "are_marked" (defArgs s26) (defBody s26) (defScope s26) [] [] (He.ga K "are_marked") fd
  D27 : ∃ fd, FunD K "is_known" "is_known" (defArgs s27) (defBody s27) (defScope s27) [] [] (He.ga K "is_known") fd
  D28 : ∃ fd, FunD K "is_file" "is_file" (defArgs s28) (defBody s28) (defScope s28) [] [] (He.ga K "is_file") fd
  D29 : ∃ fd, FunD K "mark_text" "mark_text" (defArgs s29) (defBody s29) (defScope s29) [] [] (He.ga K "mark_text") fd
  D30 : ∃ fd, FunD K "written" "written" (defArgs s30) (defBody s30) (defScope s30) [] [] (He.ga K "written") fd
  D31 : ∃ fd, FunD K "read" "read" (defArgs s31) (defBody s31) (defScope s31) [] [] (He.ga K "read") fd
  D32 : ∃ fd, FunD K "_law_read" "_law_read" (defArgs s32) (defBody s32) (defScope s32) [] [] (He.ga K "_law_read") fd
  D33 : ∃ fd, FunD K "_law_same" "_law_same" (defArgs s33) (defBody s33) (defScope s33) [] [] (He.ga K "_law_same") fd
  D34 : ∃ fd, FunD K "_law_is_told" "_law_is_told" (defArgs s34) (defBody s34) (defScope s34) [] [] (He.ga K "_law_is_told") fd
  D35 : ∃ fd, FunD K "law" "law" (defArgs s35) (defBody s35) (defScope s35) [] [] (He.ga K "law") fd
theorem nd_Reader : (["text", "place"] : List Str).Nodup := by decide
theorem nf_Reader_until : ¬ ("until" : Str) ∈ (["text", "place"] : List Str) := by decide
theorem nf_Reader_signs : ¬ ("signs" : Str) ∈ (["text", "place"] : List Str) := by decide
def Gb (K : PySem.W.Frag) : Glob where
  cls := fun n => match n with
    | 2 => some (He.ga K "Reader")
    | _ => none
  flds := fun n => match n with
    | 2 => ["text", "place"]
    | _ => []
  exc := fun n => match n with
    | 0 => some (He.ga K "ShelfError")
    | 4 => some (He.ga K "NoWriting")
    | _ => none
  fn := fun n => match n with
    | 0 => some (He.ga K "is_name")
    | 1 => some (He.ga K "is_text")
    | _ => none
  K := K
section
variable {P : Program} {w : World} {K : PySem.W.Frag} {mg : Str → Option Value} {base : Heap}
theorem sc0 : FnScope ["_law_script", "_law_k"] ["_law_script", "_law_k"] (defScope s0) := ⟨rfl, rfl, rfl, by decide +kernel, rfl, by decide +kernel, by decide +kernel⟩
theorem ok_law_cell (E : Env K mg) : FnM P w K mg base (Gb K) 1 (He.ga K "_law_cell") 2 m_law_cell := by
  have sc := sc0
  obtain ⟨fd, D⟩ := E.D0
  exact FnM.of D sc (fun _ _ _ _ _ _ us hl => match us, hl with | [_, _], _ => rfl) (fun cdv A outer s H E0 hr =>
  mss_cons (ms_if (mt_cmp om_lt (me_var (i := 1)) (me_bi cm_len rfl E.n_len boot_len (ma_cons (me_var (i := 0)) (ma_nil))) (nomark _)) (mss_one (ms_ret (me_ix (om_ix hr.u1) (me_var (i := 0)) (me_var (i := 1))))) (mss_nil))
  (mss_one (ms_ret (me_int))))
theorem sc1 : FnScope ["_law_cell_here", "_law_prime", "_law_many"] ["_law_cell_here", "_law_prime", "_law_many"] (defScope s1) := ⟨rfl, rfl, rfl, by decide +kernel, rfl, by decide +kernel, by decide +kernel⟩
theorem ok_law_mix (E : Env K mg) : FnM P w K mg base (Gb K) 1 (He.ga K "_law_mix") 3 m_law_mix := by
  have sc := sc1
  obtain ⟨fd, D⟩ := E.D1
  exact FnM.of D sc (fun _ _ _ _ _ _ us hl => match us, hl with | [_, _, _], _ => rfl) (fun cdv A outer s H E0 hr =>
  mss_one (ms_ret (me_op om_mod (me_op om_mod (me_op om_mul (me_var (i := 0)) (me_int)) (me_var (i := 1))) (me_var (i := 2)))))
theorem sc2 : FnScope ["_law_cell_here", "_law_which_here", "_law_found", "_law_house", "_law_many"] ["_law_cell_here", "_law_which_here"] (defScope s2) := ⟨rfl, rfl, rfl, by decide +kernel, rfl, by decide +kernel, by decide +kernel⟩
theorem okr_law_known (E : Env K mg) : FnM P w K mg base (Gb K) 2 (He.ga K "_law_known") 2 m_law_known := by
  have sc := sc2
  obtain ⟨fd, D⟩ := E.D2
  exact FnM.of D sc (fun _ _ _ _ _ _ us hl => match us, hl with | [_, _], _ => rfl) (fun cdv A outer s H E0 hr =>
  mss_cons (ms_set (i := 2) sc.nd (me_lstR (ma_nil)))
  (mss_cons (ms_for (passes_of rfl) rfl (mi_range1 rfl E.n_range (ma_cons (me_int) (ma_nil))) (mg_name sc.nd) (mss_cons (ms_set (i := 4) sc.nd (me_call (FnM.mono (ok_law_mix E) (by decide)) hr (takes_of rfl rfl rfl rfl) rfl E.g__law_mix (ma_cons (me_op om_add (me_var (i := 0)) (me_op om_mul (me_int) (me_var (i := 3)))) (ma_cons (me_int) (ma_cons (me_int) (ma_nil)))) (al_cons (al_cons (al_cons al_nil)))))
  (mss_cons (ms_if (mt_cmp (om_eq hr.units) (me_var (i := 3)) (me_ix (om_ix hr.u1) (me_var (i := 1)) (me_int)) (nomark _)) (mss_one (ms_set (i := 4) sc.nd (me_op om_add (me_var (i := 4)) (me_ix (om_ix hr.u1) (me_var (i := 1)) (me_int))))) (mss_nil))
  (mss_one (ms_if (mt_cmp om_gt (me_var (i := 4)) (me_int) (nomark _)) (mss_one (ms_expr (me_bm (T := .list) mm_append PySem.F.plainAttrs_list PySem.F.slot_list_append PySem.F.type_list_append (me_var (i := 2)) (ma_cons (me_tup (ma_cons (me_var (i := 3)) (ma_cons (me_var (i := 4)) (ma_nil)))) (ma_nil))))) (mss_nil))))))
  (mss_one (ms_ret (me_biT cm_tupleP rfl E.n_tuple PyProof.Rows.boot_tuple (ma_cons (me_var (i := 2)) (ma_nil)))))))
theorem ok_law_known (E : Env K mg) : FnM P w K mg base (Gb K) 2 (He.ga K "_law_known") 2 s_law_known := (okr_law_known E).le le_law_known
theorem sc3 : FnScope ["_law_cell_here", "_law_letters", "_law_many", "_law_k"] ["_law_cell_here"] (defScope s3) := ⟨rfl, rfl, rfl, by decide +kernel, rfl, by decide +kernel, by decide +kernel⟩
theorem ok_law_name (E : Env K mg) : FnM P w K mg base (Gb K) 2 (He.ga K "_law_name") 1 m_law_name := by
  have sc := sc3
  obtain ⟨fd, D⟩ := E.D3
  exact FnM.of D sc (fun _ _ _ _ _ _ us hl => match us, hl with | [_], _ => rfl) (fun cdv A outer s H E0 hr =>
  mss_cons (ms_set (i := 1) sc.nd (me_str))
  (mss_cons (ms_set (i := 2) sc.nd (me_op om_add (me_int) (me_call (FnM.mono (ok_law_mix E) (by decide)) hr (takes_of rfl rfl rfl rfl) rfl E.g__law_mix (ma_cons (me_var (i := 0)) (ma_cons (me_int) (ma_cons (me_int) (ma_nil)))) (al_cons (al_cons (al_cons al_nil))))))
  (mss_cons (ms_if (mt_cmp (om_eq hr.units) (me_op om_mod (me_var (i := 0)) (me_int)) (me_int) (nomark _)) (mss_cons (ms_set (i := 1) sc.nd (me_str))
  (mss_one (ms_set (i := 2) sc.nd (me_op om_add (me_int) (me_op om_mod (me_var (i := 2)) (me_int)))))) (mss_nil))
  (mss_one (ms_ret (me_bm (T := .str) mm_join PySem.F.plainAttrs_str PySem.F.slot_str_join PySem.F.type_str_join (me_str) (ma_cons (me_lc (own := [("_law_k", 3)]) (.inl rfl) rfl sc.nd (mi_range1 rfl E.n_range (ma_cons (me_var (i := 2)) (ma_nil))) (blkOk_by (by kernel_rfl)) (fun _ _ _ _ _ => mg_name sc.nd) (fun _ _ _ _ _ => mts_nil) (fun _ _ _ _ _ => me_ix (om_ix hr.u1) (me_var (i := 1)) (me_call (FnM.mono (ok_law_mix E) (by decide)) hr tk0 rfl E.g__law_mix (ma_cons (me_op om_add (me_var (i := 0)) (me_op om_mul (me_int) (me_var (i := 3)))) (ma_cons (me_int) (ma_cons (me_bi cm_len rfl E.n_len boot_len (ma_cons (me_var (i := 1)) (ma_nil))) (ma_nil)))) (al_cons (al_cons (al_cons al_nil))))) (by decide)) (ma_nil))))))))
theorem sc4 : FnScope ["_law_cell_here", "_law_signs", "_law_many", "_law_k"] ["_law_cell_here"] (defScope s4) := ⟨rfl, rfl, rfl, by decide +kernel, rfl, by decide +kernel, by decide +kernel⟩
theorem ok_law_text (E : Env K mg) : FnM P w K mg base (Gb K) 2 (He.ga K "_law_text") 1 m_law_text := by
  have sc := sc4
  obtain ⟨fd, D⟩ := E.D4
  exact FnM.of D sc (fun _ _ _ _ _ _ us hl => match us, hl with | [_], _ => rfl) (fun cdv A outer s H E0 hr =>
  mss_cons (ms_set (i := 1) sc.nd (me_str))
  (mss_cons (ms_set (i := 2) sc.nd (me_call (FnM.mono (ok_law_mix E) (by decide)) hr (takes_of rfl rfl rfl rfl) rfl E.g__law_mix (ma_cons (me_var (i := 0)) (ma_cons (me_int) (ma_cons (me_int) (ma_nil)))) (al_cons (al_cons (al_cons al_nil)))))
  (mss_cons (ms_if (mt_cmp (om_eq hr.units) (me_call (FnM.mono (ok_law_mix E) (by decide)) hr (takes_of rfl rfl rfl rfl) rfl E.g__law_mix (ma_cons (me_var (i := 0)) (ma_cons (me_int) (ma_cons (me_int) (ma_nil)))) (al_cons (al_cons (al_cons al_nil)))) (me_int) (nomark _)) (mss_one (ms_set (i := 2) sc.nd (me_int))) (mss_nil))
  (mss_cons (ms_if (mt_cmp (om_eq hr.units) (me_call (FnM.mono (ok_law_mix E) (by decide)) hr (takes_of rfl rfl rfl rfl) rfl E.g__law_mix (ma_cons (me_var (i := 0)) (ma_cons (me_int) (ma_cons (me_int) (ma_nil)))) (al_cons (al_cons (al_cons al_nil)))) (me_int) (nomark _)) (mss_one (ms_set (i := 2) sc.nd (me_call (FnM.mono (ok_law_mix E) (by decide)) hr (takes_of rfl rfl rfl rfl) rfl E.g__law_mix (ma_cons (me_var (i := 0)) (ma_cons (me_int) (ma_cons (me_int) (ma_nil)))) (al_cons (al_cons (al_cons al_nil)))))) (mss_nil))
  (mss_cons (ms_if (mt_cmp (om_eq hr.units) (me_op om_mod (me_var (i := 0)) (me_int)) (me_int) (nomark _)) (mss_one (ms_ret (me_ix (om_ix hr.u1) (me_tup (ma_cons (me_str) (ma_cons (me_str) (ma_cons (me_str) (ma_nil))))) (me_call (FnM.mono (ok_law_mix E) (by decide)) hr (takes_of rfl rfl rfl rfl) rfl E.g__law_mix (ma_cons (me_var (i := 0)) (ma_cons (me_int) (ma_cons (me_int) (ma_nil)))) (al_cons (al_cons (al_cons al_nil))))))) (mss_nil))
  (mss_one (ms_ret (me_bm (T := .str) mm_join PySem.F.plainAttrs_str PySem.F.slot_str_join PySem.F.type_str_join (me_str) (ma_cons (me_lc (own := [("_law_k", 3)]) (.inl rfl) rfl sc.nd (mi_range1 rfl E.n_range (ma_cons (me_var (i := 2)) (ma_nil))) (blkOk_by (by kernel_rfl)) (fun _ _ _ _ _ => mg_name sc.nd) (fun _ _ _ _ _ => mts_nil) (fun _ _ _ _ _ => me_ix (om_ix hr.u1) (me_var (i := 1)) (me_call (FnM.mono (ok_law_mix E) (by decide)) hr tk0 rfl E.g__law_mix (ma_cons (me_op om_add (me_var (i := 0)) (me_op om_mul (me_int) (me_var (i := 3)))) (ma_cons (me_int) (ma_cons (me_bi cm_len rfl E.n_len boot_len (ma_cons (me_var (i := 1)) (ma_nil))) (ma_nil)))) (al_cons (al_cons (al_cons al_nil))))) (by decide)) (ma_nil))))))))))
theorem sc5 : FnScope ["_law_cell_here", "_law_known_here", "_law_kind", "_law_seed", "_law_found", "_law_k", "_law_house", "_law_most", "_law_mark_here", "_law_words"] ["_law_cell_here", "_law_known_here", "_law_kind", "_law_seed"] (defScope s5) := ⟨rfl, rfl, rfl, by decide +kernel, rfl, by decide +kernel, by decide +kernel⟩
theorem okr_law_marked (E : Env K mg) : FnM P w K mg base (Gb K) 3 (He.ga K "_law_marked") 4 m_law_marked := by
  have sc := sc5
  obtain ⟨fd, D⟩ := E.D5
  exact FnM.of D sc (fun _ _ _ _ _ _ us hl => match us, hl with | [_, _, _, _], _ => rfl) (fun cdv A outer s H E0 hr =>
  mss_cons (ms_set (i := 4) sc.nd (me_dictT))
  (mss_cons (ms_for (passes_of rfl) rfl (mi_range1 rfl E.n_range (ma_cons (me_call (FnM.mono (ok_law_mix E) (by decide)) hr (takes_of rfl rfl rfl rfl) rfl E.g__law_mix (ma_cons (me_var (i := 0)) (ma_cons (me_int) (ma_cons (me_int) (ma_nil)))) (al_cons (al_cons (al_cons al_nil)))) (ma_nil))) (mg_name sc.nd) (mss_cons (ms_asg (me_ix (om_ix hr.u1) (me_var (i := 1)) (me_call (FnM.mono (ok_law_mix E) (by decide)) hr (takes_of rfl rfl rfl rfl) rfl E.g__law_mix (ma_cons (me_op om_add (me_var (i := 0)) (me_op om_mul (me_int) (me_var (i := 5)))) (ma_cons (me_int) (ma_cons (me_bi cm_len rfl E.n_len boot_len (ma_cons (me_var (i := 1)) (ma_nil))) (ma_nil)))) (al_cons (al_cons (al_cons al_nil))))) (mg_tup rfl (mgs_cons (mg_name sc.nd) (mgs_cons (mg_name sc.nd) (mgs_nil)))))
  (mss_cons (ms_set (i := 8) sc.nd (me_tup (ma_cons (me_var (i := 6)) (ma_cons (me_op om_add (me_int) (me_call (FnM.mono (ok_law_mix E) (by decide)) hr (takes_of rfl rfl rfl rfl) rfl E.g__law_mix (ma_cons (me_op om_add (me_var (i := 0)) (me_op om_mul (me_int) (me_var (i := 5)))) (ma_cons (me_int) (ma_cons (me_var (i := 7)) (ma_nil)))) (al_cons (al_cons (al_cons al_nil))))) (ma_nil)))))
  (mss_cons (ms_set (i := 9) sc.nd (me_op om_add (me_op om_add (me_var (i := 3)) (me_op om_mul (me_int) (me_ix (om_ix hr.u1) (me_var (i := 8)) (me_int)))) (me_op om_mul (me_int) (me_ix (om_ix hr.u1) (me_var (i := 8)) (me_int)))))
  (mss_cons (ms_sub hr.u1 (me_var (i := 4)) (me_var (i := 8)) (me_call (FnM.mono (ok_law_name E) (by decide)) hr (takes_of rfl rfl rfl rfl) rfl E.g__law_name (ma_cons (me_var (i := 9)) (ma_nil)) (al_cons al_nil)))
  (mss_one (ms_if (mt_cmp (om_eq hr.units) (me_var (i := 2)) (me_int) (nomark _)) (mss_one (ms_sub hr.u1 (me_var (i := 4)) (me_var (i := 8)) (me_call (FnM.mono (ok_law_text E) (by decide)) hr (takes_of rfl rfl rfl rfl) rfl E.g__law_text (ma_cons (me_var (i := 9)) (ma_nil)) (al_cons al_nil)))) (mss_nil))))))))
  (mss_one (ms_ret (me_biT cm_tuple rfl E.n_tuple PyProof.Rows.boot_tuple (ma_cons (me_lc (own := [("_law_mark_here", 8)]) (.inl rfl) rfl sc.nd (mi_val (me_bi (cm_sorted hr.u200 rfl) rfl E.n_sorted PyProof.Rows.boot_sorted (ma_cons (me_var (i := 4)) (ma_nil)))) (blkOk_by (by kernel_rfl)) (fun _ _ _ _ _ => mg_name sc.nd) (fun _ _ _ _ _ => mts_nil) (fun _ _ _ _ _ => me_tup (ma_cons (me_var (i := 8)) (ma_cons (me_ix (om_ix hr.u1) (me_var (i := 4)) (me_var (i := 8))) (ma_nil)))) (by decide)) (ma_nil)))))))
theorem ok_law_marked (E : Env K mg) : FnM P w K mg base (Gb K) 3 (He.ga K "_law_marked") 4 s_law_marked := (okr_law_marked E).le le_law_marked
theorem sc6 : FnScope ["_law_cell_here", "_law_which_here", "_law_first", "_law_seed", "_law_known_here"] ["_law_cell_here", "_law_which_here", "_law_first", "_law_seed"] (defScope s6) := ⟨rfl, rfl, rfl, by decide +kernel, rfl, by decide +kernel, by decide +kernel⟩
theorem ok_law_file (E : Env K mg) : FnM P w K mg base (Gb K) 4 (He.ga K "_law_file") 4 m_law_file := by
  have sc := sc6
  obtain ⟨fd, D⟩ := E.D6
  exact FnM.of D sc (fun _ _ _ _ _ _ us hl => match us, hl with | [_, _, _, _], _ => rfl) (fun cdv A outer s H E0 hr =>
  mss_cons (ms_set (i := 4) sc.nd (me_call (FnM.mono (ok_law_known E) (by decide)) hr (takes_of rfl rfl rfl rfl) rfl E.g__law_known (ma_cons (me_var (i := 0)) (ma_cons (me_var (i := 1)) (ma_nil))) (al_cons (al_cons al_nil))))
  (mss_one (ms_ret (me_tup (ma_cons (me_var (i := 1)) (ma_cons (me_var (i := 2)) (ma_cons (me_var (i := 4)) (ma_cons (me_call (FnM.mono (ok_law_marked E) (by decide)) hr (takes_of rfl rfl rfl rfl) rfl E.g__law_marked (ma_cons (me_op om_add (me_var (i := 0)) (me_int)) (ma_cons (me_var (i := 4)) (ma_cons (me_int) (ma_cons (me_var (i := 3)) (ma_nil))))) (al_cons (al_cons (al_cons (al_cons al_nil))))) (ma_cons (me_call (FnM.mono (ok_law_marked E) (by decide)) hr (takes_of rfl rfl rfl rfl) rfl E.g__law_marked (ma_cons (me_op om_add (me_var (i := 0)) (me_int)) (ma_cons (me_var (i := 4)) (ma_cons (me_int) (ma_cons (me_op om_add (me_var (i := 3)) (me_int)) (ma_nil))))) (al_cons (al_cons (al_cons (al_cons al_nil))))) (ma_nil))))))))))
theorem sc7 : FnScope ["_law_mark_here"] ["_law_mark_here"] (defScope s7) := ⟨rfl, rfl, rfl, by decide +kernel, rfl, by decide +kernel, by decide +kernel⟩
theorem ok_law_mark (E : Env K mg) : FnM P w K mg base (Gb K) 1 (He.ga K "_law_mark") 1 m_law_mark := by
  have sc := sc7
  obtain ⟨fd, D⟩ := E.D7
  exact FnM.of D sc (fun _ _ _ _ _ _ us hl => match us, hl with | [_], _ => rfl) (fun cdv A outer s H E0 hr =>
  mss_one (ms_ret (me_op om_add (me_op om_add (me_biT cm_str rfl E.n_str PyProof.Rows.boot_str (ma_cons (me_ix (om_ix hr.u1) (me_var (i := 0)) (me_int)) (ma_nil))) (me_str)) (me_biT cm_str rfl E.n_str PyProof.Rows.boot_str (ma_cons (me_ix (om_ix hr.u1) (me_var (i := 0)) (me_int)) (ma_nil))))))
theorem sc8 : FnScope ["_law_file_here", "_law_names", "_law_mark_here", "_law_name_here", "_law_texts", "_law_text_here", "_law_known_here", "_law_found"] ["_law_file_here"] (defScope s8) := ⟨rfl, rfl, rfl, by decide +kernel, rfl, by decide +kernel, by decide +kernel⟩
theorem ok_law_written (E : Env K mg) : FnM P w K mg base (Gb K) 2 (He.ga K "_law_written") 1 m_law_written := by
  have sc := sc8
  obtain ⟨fd, D⟩ := E.D8
  exact FnM.of D sc (fun _ _ _ _ _ _ us hl => match us, hl with | [_], _ => rfl) (fun cdv A outer s H E0 hr =>
  mss_cons (ms_setLc (own := [("_law_mark_here", 2), ("_law_name_here", 3)]) (.inl rfl) rfl sc.nd rfl rfl rfl (mi_val (me_ix (om_ix hr.u1) (me_var (i := 0)) (me_int))) (blkOk_by (by kernel_rfl)) (fun _ _ _ _ _ => mg_tup rfl (mgs_cons (mg_name sc.nd) (mgs_cons (mg_name sc.nd) (mgs_nil)))) (fun _ _ _ _ _ => mts_nil) (fun _ _ _ _ _ => me_op om_add (me_op om_add (me_call (FnM.mono (ok_law_mark E) (by decide)) hr tk0 rfl E.g__law_mark (ma_cons (me_var (i := 2)) (ma_nil)) (al_cons al_nil)) (me_str)) (me_var (i := 3))) (by decide))
  (mss_cons (ms_setLc (own := [("_law_mark_here", 2), ("_law_text_here", 5)]) (.inl rfl) rfl sc.nd rfl rfl rfl (mi_val (me_ix (om_ix hr.u1) (me_var (i := 0)) (me_int))) (blkOk_by (by kernel_rfl)) (fun _ _ _ _ _ => mg_tup rfl (mgs_cons (mg_name sc.nd) (mgs_cons (mg_name sc.nd) (mgs_nil)))) (fun _ _ _ _ _ => mts_nil) (fun _ _ _ _ _ => me_op om_add (me_op om_add (me_op om_add (me_op om_add (me_call (FnM.mono (ok_law_mark E) (by decide)) hr tk0 rfl E.g__law_mark (ma_cons (me_var (i := 2)) (ma_nil)) (al_cons al_nil)) (me_str)) (me_biT cm_str rfl E.n_str PyProof.Rows.boot_str (ma_cons (me_bi cm_len rfl E.n_len boot_len (ma_cons (me_var (i := 5)) (ma_nil))) (ma_nil)))) (me_str)) (me_var (i := 5))) (by decide))
  (mss_cons (ms_set (i := 6) sc.nd (me_bm (T := .str) mm_join PySem.F.plainAttrs_str PySem.F.slot_str_join PySem.F.type_str_join (me_str) (ma_cons (me_lc (own := [("_law_mark_here", 2)]) (.inl rfl) rfl sc.nd (mi_val (me_ix (om_ix hr.u1) (me_var (i := 0)) (me_int))) (blkOk_by (by kernel_rfl)) (fun _ _ _ _ _ => mg_name sc.nd) (fun _ _ _ _ _ => mts_nil) (fun _ _ _ _ _ => me_call (FnM.mono (ok_law_mark E) (by decide)) hr tk0 rfl E.g__law_mark (ma_cons (me_var (i := 2)) (ma_nil)) (al_cons al_nil)) (by decide)) (ma_nil))))
  (mss_cons (ms_set (i := 7) sc.nd (me_op om_add (me_op om_add (me_op om_add (me_op om_add (me_op om_add (me_call (FnM.mono (ok_law_mark E) (by decide)) hr (takes_of rfl rfl rfl rfl) rfl E.g__law_mark (ma_cons (me_ix (om_ix hr.u1) (me_var (i := 0)) (me_int)) (ma_nil)) (al_cons al_nil)) (me_str)) (me_ix (om_ix hr.u1) (me_var (i := 0)) (me_int))) (me_str)) (me_var (i := 6))) (me_str)))
  (mss_one (ms_ret (me_op om_add (me_op om_add (me_op om_add (me_op om_add (me_var (i := 7)) (me_bm (T := .str) mm_join PySem.F.plainAttrs_str PySem.F.slot_str_join PySem.F.type_str_join (me_str) (ma_cons (me_var (i := 1)) (ma_nil)))) (me_str)) (me_bm (T := .str) mm_join PySem.F.plainAttrs_str PySem.F.slot_str_join PySem.F.type_str_join (me_str) (ma_cons (me_var (i := 4)) (ma_nil)))) (me_str))))))))
theorem sc9 : FnScope ["_law_cell_here"] ["_law_cell_here"] (defScope s9) := ⟨rfl, rfl, rfl, by decide +kernel, rfl, by decide +kernel, by decide +kernel⟩
theorem ok_law_which (E : Env K mg) : FnM P w K mg base (Gb K) 2 (He.ga K "_law_which") 1 m_law_which := by
  have sc := sc9
  obtain ⟨fd, D⟩ := E.D9
  exact FnM.of D sc (fun _ _ _ _ _ _ us hl => match us, hl with | [_], _ => rfl) (fun cdv A outer s H E0 hr =>
  mss_one (ms_ret (me_tup (ma_cons (me_call (FnM.mono (ok_law_mix E) (by decide)) hr (takes_of rfl rfl rfl rfl) rfl E.g__law_mix (ma_cons (me_var (i := 0)) (ma_cons (me_int) (ma_cons (me_int) (ma_nil)))) (al_cons (al_cons (al_cons al_nil)))) (ma_cons (me_op om_add (me_op om_add (me_int) (me_call (FnM.mono (ok_law_mix E) (by decide)) hr (takes_of rfl rfl rfl rfl) rfl E.g__law_mix (ma_cons (me_var (i := 0)) (ma_cons (me_int) (ma_cons (me_int) (ma_nil)))) (al_cons (al_cons (al_cons al_nil))))) (me_op om_mul (me_int) (me_op om_mod (me_var (i := 0)) (me_int)))) (ma_nil))))))
theorem sc10 : FnScope ["_law_text_here", "_law_cell_here", "_law_signs", "_law_at", "_law_sign", "_law_kind"] ["_law_text_here", "_law_cell_here"] (defScope s10) := ⟨rfl, rfl, rfl, by decide +kernel, rfl, by decide +kernel, by decide +kernel⟩
theorem ok_law_changed (E : Env K mg) : FnM P w K mg base (Gb K) 2 (He.ga K "_law_changed") 2 m_law_changed := by
  have sc := sc10
  obtain ⟨fd, D⟩ := E.D10
  exact FnM.of D sc (fun _ _ _ _ _ _ us hl => match us, hl with | [_, _], _ => rfl) (fun cdv A outer s H E0 hr =>
  mss_cons (ms_set (i := 2) sc.nd (me_str))
  (mss_cons (ms_set (i := 3) sc.nd (me_call (FnM.mono (ok_law_mix E) (by decide)) hr (takes_of rfl rfl rfl rfl) rfl E.g__law_mix (ma_cons (me_var (i := 1)) (ma_cons (me_int) (ma_cons (me_op om_add (me_bi cm_len rfl E.n_len boot_len (ma_cons (me_var (i := 0)) (ma_nil))) (me_int)) (ma_nil)))) (al_cons (al_cons (al_cons al_nil)))))
  (mss_cons (ms_set (i := 4) sc.nd (me_ix (om_ix hr.u1) (me_var (i := 2)) (me_call (FnM.mono (ok_law_mix E) (by decide)) hr (takes_of rfl rfl rfl rfl) rfl E.g__law_mix (ma_cons (me_var (i := 1)) (ma_cons (me_int) (ma_cons (me_int) (ma_nil)))) (al_cons (al_cons (al_cons al_nil))))))
  (mss_cons (ms_set (i := 5) sc.nd (me_call (FnM.mono (ok_law_mix E) (by decide)) hr (takes_of rfl rfl rfl rfl) rfl E.g__law_mix (ma_cons (me_var (i := 1)) (ma_cons (me_int) (ma_cons (me_int) (ma_nil)))) (al_cons (al_cons (al_cons al_nil)))))
  (mss_cons (ms_if (mt_cmp (om_eq hr.units) (me_var (i := 5)) (me_int) (nomark _)) (mss_one (ms_ret (me_op om_add (me_op om_add (mslice (me_var (i := 0)) (mo_none) (mo_some (me_var (i := 3)))) (me_var (i := 4))) (mslice (me_var (i := 0)) (mo_some (me_var (i := 3))) (mo_none))))) (mss_nil))
  (mss_cons (ms_if (mt_cmp (om_eq hr.units) (me_var (i := 5)) (me_int) (nomark _)) (mss_one (ms_ret (me_op om_add (mslice (me_var (i := 0)) (mo_none) (mo_some (me_var (i := 3)))) (mslice (me_var (i := 0)) (mo_some (me_op om_add (me_var (i := 3)) (me_int))) (mo_none))))) (mss_nil))
  (mss_one (ms_ret (me_op om_add (me_op om_add (mslice (me_var (i := 0)) (mo_none) (mo_some (me_var (i := 3)))) (me_var (i := 4))) (mslice (me_var (i := 0)) (mo_some (me_op om_add (me_var (i := 3)) (me_int))) (mo_none)))))))))))
theorem sc11 : FnScope ["self", "text"] ["self", "text"] (defScope s11) := ⟨rfl, rfl, rfl, by decide +kernel, rfl, by decide +kernel, by decide +kernel⟩
theorem ok_Reader_init (E : Env K mg) : FnM P w K mg base (Gb K) 1 (He.ma K (He.ga K "Reader") "__init__") 2 m_Reader_init := by
  have sc := sc11
  obtain ⟨fd, D⟩ := E.D11
  exact FnM.of D sc (fun _ _ _ _ _ _ us hl => match us, hl with | [_, _], _ => rfl) (fun cdv A outer s H E0 hr =>
  mss_cons (ms_fld (me_var (i := 0)) (me_var (i := 1)) rfl E.c_Reader E.na_Reader_text nd_Reader rfl)
  (mss_one (ms_fld (me_var (i := 0)) (me_int) rfl E.c_Reader E.na_Reader_place nd_Reader rfl)))
theorem sc12 : FnScope ["text", "sign"] ["text"] (defScope s12) := ⟨rfl, rfl, rfl, by decide +kernel, rfl, by decide +kernel, by decide +kernel⟩
theorem ok_number_of (E : Env K mg) : FnM P w K mg base (Gb K) 1 (He.ga K "number_of") 1 m_number_of := by
  have sc := sc12
  obtain ⟨fd, D⟩ := E.D12
  exact FnM.of D sc (fun _ _ _ _ _ _ us hl => match us, hl with | [_], _ => rfl) (fun cdv A outer s H E0 hr =>
  mss_cons (ms_if (MW.mt (mw_or (mt_not (mt_tru (me_var (i := 0)))) (mw_or1 (mt_not (mt_tru (me_bi (cm_all rfl) rfl E.n_all PyProof.Rows.boot_all (ma_cons (me_lc (own := [("sign", 1)]) (.inl rfl) rfl sc.nd (mi_val (me_var (i := 0))) (blkOk_by (by kernel_rfl)) (fun _ _ _ _ _ => mg_name sc.nd) (fun _ _ _ _ _ => mts_nil) (fun _ _ _ _ _ => me_cmp (om_in hr.u65) (me_var (i := 1)) (me_str) (by with_unfolding_all rfl)) (by decide)) (ma_nil)))))))) (mss_one (ms_raise rfl (takes_of rfl rfl rfl rfl) PySem.F.excBase_ValueError E.x_NoWriting rfl E.g_NoWriting E.k_NoWriting (raises_own E.sb_NoWriting E.ty_NoWriting) rfl)) (mss_nil))
  (mss_one (ms_ret (me_biT cm_int rfl E.n_int PyProof.Rows.boot_int (ma_cons (me_var (i := 0)) (ma_nil))))))
theorem sc13 : FnScope ["text", "parts"] ["text"] (defScope s13) := ⟨rfl, rfl, rfl, by decide +kernel, rfl, by decide +kernel, by decide +kernel⟩
theorem ok_mark_of (E : Env K mg) : FnM P w K mg base (Gb K) 2 (He.ga K "mark_of") 1 m_mark_of := by
  have sc := sc13
  obtain ⟨fd, D⟩ := E.D13
  exact FnM.of D sc (fun _ _ _ _ _ _ us hl => match us, hl with | [_], _ => rfl) (fun cdv A outer s H E0 hr =>
  mss_cons (ms_set (i := 1) sc.nd (me_bm (T := .str) mm_split PySem.F.plainAttrs_str PySem.F.slot_str_split PySem.F.type_str_split (me_var (i := 0)) (ma_cons (me_str) (ma_nil))))
  (mss_cons (ms_if (mt_cmp (om_ne hr.units) (me_bi cm_len rfl E.n_len boot_len (ma_cons (me_var (i := 1)) (ma_nil))) (me_int) (nomark _)) (mss_one (ms_raise rfl (takes_of rfl rfl rfl rfl) PySem.F.excBase_ValueError E.x_NoWriting rfl E.g_NoWriting E.k_NoWriting (raises_own E.sb_NoWriting E.ty_NoWriting) rfl)) (mss_nil))
  (mss_one (ms_ret (me_tup (ma_cons (me_call (FnM.mono (ok_number_of E) (by decide)) hr (takes_of rfl rfl rfl rfl) rfl E.g_number_of (ma_cons (me_ix (om_ix hr.u1) (me_var (i := 1)) (me_int)) (ma_nil)) (al_cons al_nil)) (ma_cons (me_call (FnM.mono (ok_number_of E) (by decide)) hr (takes_of rfl rfl rfl rfl) rfl E.g_number_of (ma_cons (me_ix (om_ix hr.u1) (me_var (i := 1)) (me_int)) (ma_nil)) (al_cons al_nil)) (ma_nil))))))))
theorem sc14 : FnScope ["self", "sign", "end", "found"] ["self", "sign"] (defScope s14) := ⟨rfl, rfl, rfl, by decide +kernel, rfl, by decide +kernel, by decide +kernel⟩
theorem ok_Reader_until (E : Env K mg) : FnM P w K mg base (Gb K) 1 (He.ma K (He.ga K "Reader") "until") 2 m_Reader_until := by
  have sc := sc14
  obtain ⟨fd, D⟩ := E.D14
  exact FnM.of D sc (fun _ _ _ _ _ _ us hl => match us, hl with | [_, _], _ => rfl) (fun cdv A outer s H E0 hr =>
  mss_cons (ms_set (i := 2) sc.nd (me_bm (T := .str) mm_find PySem.F.plainAttrs_str PySem.F.slot_str_find PySem.F.type_str_find (me_fld (me_var (i := 0)) rfl E.c_Reader E.na_Reader_text nd_Reader rfl) (ma_cons (me_var (i := 1)) (ma_cons (me_fld (me_var (i := 0)) rfl E.c_Reader E.na_Reader_place nd_Reader rfl) (ma_nil)))))
  (mss_cons (ms_if (mt_cmp om_lt (me_var (i := 2)) (me_int) (nomark _)) (mss_one (ms_raise rfl (takes_of rfl rfl rfl rfl) PySem.F.excBase_ValueError E.x_NoWriting rfl E.g_NoWriting E.k_NoWriting (raises_own E.sb_NoWriting E.ty_NoWriting) rfl)) (mss_nil))
  (mss_cons (ms_set (i := 3) sc.nd (mslice (me_fld (me_var (i := 0)) rfl E.c_Reader E.na_Reader_text nd_Reader rfl) (mo_some (me_fld (me_var (i := 0)) rfl E.c_Reader E.na_Reader_place nd_Reader rfl)) (mo_some (me_var (i := 2)))))
  (mss_cons (ms_fld (me_var (i := 0)) (me_op om_add (me_var (i := 2)) (me_int)) rfl E.c_Reader E.na_Reader_place nd_Reader rfl)
  (mss_one (ms_ret (me_var (i := 3))))))))
theorem sc15 : FnScope ["self", "many", "found"] ["self", "many"] (defScope s15) := ⟨rfl, rfl, rfl, by decide +kernel, rfl, by decide +kernel, by decide +kernel⟩
theorem ok_Reader_signs (E : Env K mg) : FnM P w K mg base (Gb K) 1 (He.ma K (He.ga K "Reader") "signs") 2 m_Reader_signs := by
  have sc := sc15
  obtain ⟨fd, D⟩ := E.D15
  exact FnM.of D sc (fun _ _ _ _ _ _ us hl => match us, hl with | [_, _], _ => rfl) (fun cdv A outer s H E0 hr =>
  mss_cons (ms_set (i := 2) sc.nd (mslice (me_fld (me_var (i := 0)) rfl E.c_Reader E.na_Reader_text nd_Reader rfl) (mo_some (me_fld (me_var (i := 0)) rfl E.c_Reader E.na_Reader_place nd_Reader rfl)) (mo_some (me_op om_add (me_fld (me_var (i := 0)) rfl E.c_Reader E.na_Reader_place nd_Reader rfl) (me_var (i := 1))))))
  (mss_cons (ms_if (mt_cmp om_lt (me_bi cm_len rfl E.n_len boot_len (ma_cons (me_var (i := 2)) (ma_nil))) (me_var (i := 1)) (nomark _)) (mss_one (ms_raise rfl (takes_of rfl rfl rfl rfl) PySem.F.excBase_ValueError E.x_NoWriting rfl E.g_NoWriting E.k_NoWriting (raises_own E.sb_NoWriting E.ty_NoWriting) rfl)) (mss_nil))
  (mss_cons (ms_fld (me_var (i := 0)) (me_op om_add (me_fld (me_var (i := 0)) rfl E.c_Reader E.na_Reader_place nd_Reader rfl) (me_var (i := 1))) rfl E.c_Reader E.na_Reader_place nd_Reader rfl)
  (mss_one (ms_ret (me_var (i := 2)))))))
theorem sc16 : FnScope ["reader", "found", "mark", "many"] ["reader"] (defScope s16) := ⟨rfl, rfl, rfl, by decide +kernel, rfl, by decide +kernel, by decide +kernel⟩
theorem ok_texts_at (E : Env K mg) : FnM P w K mg base (Gb K) 3 (He.ga K "texts_at") 1 m_texts_at := by
  have sc := sc16
  obtain ⟨fd, D⟩ := E.D16
  exact FnM.of D sc (fun _ _ _ _ _ _ us hl => match us, hl with | [_], _ => rfl) (fun cdv A outer s H E0 hr =>
  mss_cons (ms_set (i := 1) sc.nd (me_lstR (ma_nil)))
  (mss_cons (ms_while 100000 (passes_of rfl) (mt_cmp (om_ne hr.units) (mslice (me_fld (me_var (i := 0)) rfl E.c_Reader E.na_Reader_text nd_Reader rfl) (mo_some (me_fld (me_var (i := 0)) rfl E.c_Reader E.na_Reader_place nd_Reader rfl)) (mo_some (me_op om_add (me_fld (me_var (i := 0)) rfl E.c_Reader E.na_Reader_place nd_Reader rfl) (me_int)))) (me_str) (nomark _)) (mss_cons (ms_set (i := 2) sc.nd (me_call (FnM.mono (ok_mark_of E) (by decide)) hr (takes_of rfl rfl rfl rfl) rfl E.g_mark_of (ma_cons (me_meth (me_var (i := 0)) rfl E.c_Reader E.m_Reader_until nf_Reader_until (FnM.mono (ok_Reader_until E) (by decide)) hr (takes_of rfl rfl rfl rfl) (ma_cons (me_str) (ma_nil)) (al_cons al_nil)) (ma_nil)) (al_cons al_nil)))
  (mss_cons (ms_set (i := 3) sc.nd (me_call (FnM.mono (ok_number_of E) (by decide)) hr (takes_of rfl rfl rfl rfl) rfl E.g_number_of (ma_cons (me_meth (me_var (i := 0)) rfl E.c_Reader E.m_Reader_until nf_Reader_until (FnM.mono (ok_Reader_until E) (by decide)) hr (takes_of rfl rfl rfl rfl) (ma_cons (me_str) (ma_nil)) (al_cons al_nil)) (ma_nil)) (al_cons al_nil)))
  (mss_one (ms_expr (me_bm (T := .list) mm_append PySem.F.plainAttrs_list PySem.F.slot_list_append PySem.F.type_list_append (me_var (i := 1)) (ma_cons (me_tup (ma_cons (me_var (i := 2)) (ma_cons (me_meth (me_var (i := 0)) rfl E.c_Reader E.m_Reader_signs nf_Reader_signs (FnM.mono (ok_Reader_signs E) (by decide)) hr (takes_of rfl rfl rfl rfl) (ma_cons (me_var (i := 3)) (ma_nil)) (al_cons al_nil)) (ma_nil)))) (ma_nil))))))))
  (mss_cons (ms_fld (me_var (i := 0)) (me_op om_add (me_fld (me_var (i := 0)) rfl E.c_Reader E.na_Reader_place nd_Reader rfl) (me_int)) rfl E.c_Reader E.na_Reader_place nd_Reader rfl)
  (mss_one (ms_ret (me_var (i := 1)))))))
theorem sc17 : FnScope ["text", "parts"] ["text"] (defScope s17) := ⟨rfl, rfl, rfl, by decide +kernel, rfl, by decide +kernel, by decide +kernel⟩
theorem ok_named (E : Env K mg) : FnM P w K mg base (Gb K) 3 (He.ga K "named") 1 m_named := by
  have sc := sc17
  obtain ⟨fd, D⟩ := E.D17
  exact FnM.of D sc (fun _ _ _ _ _ _ us hl => match us, hl with | [_], _ => rfl) (fun cdv A outer s H E0 hr =>
  mss_cons (ms_set (i := 1) sc.nd (me_bm (T := .str) mm_split PySem.F.plainAttrs_str PySem.F.slot_str_split PySem.F.type_str_split (me_var (i := 0)) (ma_cons (me_str) (ma_nil))))
  (mss_cons (ms_if (mt_cmp (om_ne hr.units) (me_bi cm_len rfl E.n_len boot_len (ma_cons (me_var (i := 1)) (ma_nil))) (me_int) (nomark _)) (mss_one (ms_raise rfl (takes_of rfl rfl rfl rfl) PySem.F.excBase_ValueError E.x_NoWriting rfl E.g_NoWriting E.k_NoWriting (raises_own E.sb_NoWriting E.ty_NoWriting) rfl)) (mss_nil))
  (mss_one (ms_ret (me_tup (ma_cons (me_call (FnM.mono (ok_mark_of E) (by decide)) hr (takes_of rfl rfl rfl rfl) rfl E.g_mark_of (ma_cons (me_ix (om_ix hr.u1) (me_var (i := 1)) (me_int)) (ma_nil)) (al_cons al_nil)) (ma_cons (me_ix (om_ix hr.u1) (me_var (i := 1)) (me_int)) (ma_nil))))))))
theorem sc18 : FnScope ["text"] ["text"] (defScope s18) := ⟨rfl, rfl, rfl, by decide +kernel, rfl, by decide +kernel, by decide +kernel⟩
theorem ok_listed (E : Env K mg) : FnM P w K mg base (Gb K) 1 (He.ga K "listed") 1 m_listed := by
  have sc := sc18
  obtain ⟨fd, D⟩ := E.D18
  exact FnM.of D sc (fun _ _ _ _ _ _ us hl => match us, hl with | [_], _ => rfl) (fun cdv A outer s H E0 hr =>
  mss_cons (ms_if (mt_cmp (om_eq hr.units) (me_var (i := 0)) (me_str) (nomark _)) (mss_one (ms_ret (me_lst (ma_nil)))) (mss_nil))
  (mss_one (ms_ret (me_bm (T := .str) mm_split PySem.F.plainAttrs_str PySem.F.slot_str_split PySem.F.type_str_split (me_var (i := 0)) (ma_cons (me_str) (ma_nil))))))
theorem sc19 : FnScope ["some", "k"] ["some"] (defScope s19) := ⟨rfl, rfl, rfl, by decide +kernel, rfl, by decide +kernel, by decide +kernel⟩
theorem ok_is_rising (E : Env K mg) : FnM P w K mg base (Gb K) 1 (He.ga K "is_rising") 1 m_is_rising := by
  have sc := sc19
  obtain ⟨fd, D⟩ := E.D19
  exact FnM.of D sc (fun _ _ _ _ _ _ us hl => match us, hl with | [_], _ => rfl) (fun cdv A outer s H E0 hr =>
  mss_one (ms_ret (me_bi (cm_all rfl) rfl E.n_all PyProof.Rows.boot_all (ma_cons (me_lc (own := [("k", 1)]) (.inl rfl) rfl sc.nd (mi_range2 rfl E.n_range (ma_cons (me_int) (ma_cons (me_bi cm_len rfl E.n_len boot_len (ma_cons (me_var (i := 0)) (ma_nil))) (ma_nil)))) (blkOk_by (by kernel_rfl)) (fun _ _ _ _ _ => mg_name sc.nd) (fun _ _ _ _ _ => mts_nil) (fun _ _ _ _ _ => me_cmp (om_ltD hr.u200) (me_ix (om_ix hr.u1) (me_var (i := 0)) (me_op om_sub (me_var (i := 1)) (me_int))) (me_ix (om_ix hr.u1) (me_var (i := 0)) (me_var (i := 1))) (nomark _)) (by decide)) (ma_nil)))))
theorem sc20 : FnScope ["mark", "known", "house", "count"] ["mark", "known"] (defScope s20) := ⟨rfl, rfl, rfl, by decide +kernel, rfl, by decide +kernel, by decide +kernel⟩
theorem ok_is_within (E : Env K mg) : FnM P w K mg base (Gb K) 1 (He.ga K "is_within") 2 m_is_within := by
  have sc := sc20
  obtain ⟨fd, D⟩ := E.D20
  exact FnM.of D sc (fun _ _ _ _ _ _ us hl => match us, hl with | [_, _], _ => rfl) (fun cdv A outer s H E0 hr =>
  mss_one (ms_ret (me_bi (cm_any rfl) rfl E.n_any PyProof.Rows.boot_any (ma_cons (me_lc (own := [("house", 2), ("count", 3)]) (.inl rfl) rfl sc.nd (mi_val (me_var (i := 1))) (blkOk_by (by kernel_rfl)) (fun _ _ _ _ _ => mg_tup rfl (mgs_cons (mg_name sc.nd) (mgs_cons (mg_name sc.nd) (mgs_nil)))) (fun _ _ _ _ _ => mts_nil) (fun _ _ _ _ _ => me_and (me_cmp (om_eq hr.units) (me_var (i := 2)) (me_ix (om_ix hr.u1) (me_var (i := 0)) (me_int)) (nomark _)) (me_one (me_cmp om_ge (me_var (i := 3)) (me_ix (om_ix hr.u1) (me_var (i := 0)) (me_int)) (nomark _)))) (by decide)) (ma_nil)))))
theorem sc21 : FnScope ["known", "other", "mark"] ["known", "other"] (defScope s21) := ⟨rfl, rfl, rfl, by decide +kernel, rfl, by decide +kernel, by decide +kernel⟩
theorem ok_has_heard (E : Env K mg) : FnM P w K mg base (Gb K) 2 (He.ga K "has_heard") 2 m_has_heard := by
  have sc := sc21
  obtain ⟨fd, D⟩ := E.D21
  exact FnM.of D sc (fun _ _ _ _ _ _ us hl => match us, hl with | [_, _], _ => rfl) (fun cdv A outer s H E0 hr =>
  mss_one (ms_ret (me_bi (cm_all rfl) rfl E.n_all PyProof.Rows.boot_all (ma_cons (me_lc (own := [("mark", 2)]) (.inl rfl) rfl sc.nd (mi_val (me_var (i := 1))) (blkOk_by (by kernel_rfl)) (fun _ _ _ _ _ => mg_name sc.nd) (fun _ _ _ _ _ => mts_nil) (fun _ _ _ _ _ => me_call (FnM.mono (ok_is_within E) (by decide)) hr tk0 rfl E.g_is_within (ma_cons (me_var (i := 2)) (ma_cons (me_var (i := 0)) (ma_nil))) (al_cons (al_cons al_nil))) (by decide)) (ma_nil)))))
theorem sc22 : FnScope ["thing", "least"] ["thing", "least"] (defScope s22) := ⟨rfl, rfl, rfl, by decide +kernel, rfl, by decide +kernel, by decide +kernel⟩
theorem ok_is_number (E : Env K mg) : FnM P w K mg base (Gb K) 1 (He.ga K "is_number") 2 m_is_number := by
  have sc := sc22
  obtain ⟨fd, D⟩ := E.D22
  exact FnM.of D sc (fun _ _ _ _ _ _ us hl => match us, hl with | [_, _], _ => rfl) (fun cdv A outer s H E0 hr =>
  mss_one (ms_ret (me_and (me_bi cm_isi rfl E.n_isinstance PyProof.Rows.boot_isinstance (ma_cons (me_var (i := 0)) (ma_cons (me_ty rfl E.n_int PyProof.Rows.boot_int) (ma_nil)))) (me_and (me_not (me_bi cm_isi rfl E.n_isinstance PyProof.Rows.boot_isinstance (ma_cons (me_var (i := 0)) (ma_cons (me_ty rfl E.n_bool PyProof.Rows.boot_bool) (ma_nil))))) (me_one (me_cmp om_ge (me_var (i := 0)) (me_var (i := 1)) (nomark _)))))))
theorem sc23 : FnScope ["thing"] ["thing"] (defScope s23) := ⟨rfl, rfl, rfl, by decide +kernel, rfl, by decide +kernel, by decide +kernel⟩
theorem ok_is_mark (E : Env K mg) : FnM P w K mg base (Gb K) 2 (He.ga K "is_mark") 1 m_is_mark := by
  have sc := sc23
  obtain ⟨fd, D⟩ := E.D23
  exact FnM.of D sc (fun _ _ _ _ _ _ us hl => match us, hl with | [_], _ => rfl) (fun cdv A outer s H E0 hr =>
  mss_cons (ms_if (MW.mt (mw_or (mt_not (mt_tru (me_bi cm_isi rfl E.n_isinstance PyProof.Rows.boot_isinstance (ma_cons (me_var (i := 0)) (ma_cons (me_ty rfl E.n_tuple PyProof.Rows.boot_tuple) (ma_nil)))))) (mw_or1 (mt_cmp (om_ne hr.units) (me_bi cm_len rfl E.n_len boot_len (ma_cons (me_var (i := 0)) (ma_nil))) (me_int) (nomark _))))) (mss_one (ms_ret (me_bl))) (mss_nil))
  (mss_one (ms_ret (me_and (me_call (FnM.mono (ok_is_number E) (by decide)) hr (takes_of rfl rfl rfl rfl) rfl E.g_is_number (ma_cons (me_ix (om_ix hr.u1) (me_var (i := 0)) (me_int)) (ma_cons (me_int) (ma_nil))) (al_cons (al_cons al_nil))) (me_and (me_cmp om_le (me_ix (om_ix hr.u1) (me_var (i := 0)) (me_int)) (me_int) (nomark _)) (me_one (me_call (FnM.mono (ok_is_number E) (by decide)) hr (takes_of rfl rfl rfl rfl) rfl E.g_is_number (ma_cons (me_ix (om_ix hr.u1) (me_var (i := 0)) (me_int)) (ma_cons (me_int) (ma_nil))) (al_cons (al_cons al_nil)))))))))
theorem sc24 : FnScope ["thing", "sign"] ["thing"] (defScope s24) := ⟨rfl, rfl, rfl, by decide +kernel, rfl, by decide +kernel, by decide +kernel⟩
theorem ok_is_name (E : Env K mg) : FnM P w K mg base (Gb K) 1 (He.ga K "is_name") 1 m_is_name := by
  have sc := sc24
  obtain ⟨fd, D⟩ := E.D24
  exact FnM.of D sc (fun _ _ _ _ _ _ us hl => match us, hl with | [_], _ => rfl) (fun cdv A outer s H E0 hr =>
  mss_one (ms_ret (me_and (me_bi cm_isi rfl E.n_isinstance PyProof.Rows.boot_isinstance (ma_cons (me_var (i := 0)) (ma_cons (me_ty rfl E.n_str PyProof.Rows.boot_str) (ma_nil)))) (me_and (me_chain om_le om_le (me_int) (me_bi cm_len rfl E.n_len boot_len (ma_cons (me_var (i := 0)) (ma_nil))) (me_int)) (me_one (me_bi (cm_all rfl) rfl E.n_all PyProof.Rows.boot_all (ma_cons (me_lc (own := [("sign", 1)]) (.inl rfl) rfl sc.nd (mi_val (me_var (i := 0))) (blkOk_by (by kernel_rfl)) (fun _ _ _ _ _ => mg_name sc.nd) (fun _ _ _ _ _ => mts_nil) (fun _ _ _ _ _ => me_cmp (om_in hr.u65) (me_var (i := 1)) (me_gstr rfl E.LETTERS.choose_spec) (by with_unfolding_all rfl)) (by decide)) (ma_nil))))))))
theorem sc25 : FnScope ["thing"] ["thing"] (defScope s25) := ⟨rfl, rfl, rfl, by decide +kernel, rfl, by decide +kernel, by decide +kernel⟩
theorem ok_is_text (E : Env K mg) : FnM P w K mg base (Gb K) 1 (He.ga K "is_text") 1 m_is_text := by
  have sc := sc25
  obtain ⟨fd, D⟩ := E.D25
  exact FnM.of D sc (fun _ _ _ _ _ _ us hl => match us, hl with | [_], _ => rfl) (fun cdv A outer s H E0 hr =>
  mss_one (ms_ret (me_and (me_bi cm_isi rfl E.n_isinstance PyProof.Rows.boot_isinstance (ma_cons (me_var (i := 0)) (ma_cons (me_ty rfl E.n_str PyProof.Rows.boot_str) (ma_nil)))) (me_one (me_cmp om_le (me_bi cm_len rfl E.n_len boot_len (ma_cons (me_var (i := 0)) (ma_nil))) (me_int) (nomark _))))))
theorem sc26 : FnScope ["thing", "known", "is_right", "pair", "marks", "mark", "what"] ["thing", "known", "is_right"] (defScope s26) := ⟨rfl, rfl, rfl, by decide +kernel, rfl, by decide +kernel, by decide +kernel⟩
theorem ok_are_marked (E : Env K mg) : FnM P w K mg base (Gb K) 3 (He.ga K "are_marked") 3 m_are_marked := by
  have sc := sc26
  obtain ⟨fd, D⟩ := E.D26
  exact FnM.of D sc (fun _ _ _ _ _ _ us hl => match us, hl with | [_, _, _], _ => rfl) (fun cdv A outer s H E0 hr =>
  mss_cons (ms_if (mt_not (mt_tru (me_bi cm_isi rfl E.n_isinstance PyProof.Rows.boot_isinstance (ma_cons (me_var (i := 0)) (ma_cons (me_ty rfl E.n_tuple PyProof.Rows.boot_tuple) (ma_nil)))))) (mss_one (ms_ret (me_bl))) (mss_nil))
  (mss_cons (ms_for (passes_of rfl) rfl (mi_val (me_var (i := 0))) (mg_name sc.nd) (mss_one (ms_if (MW.mt (mw_or (mt_not (mt_tru (me_bi cm_isi rfl E.n_isinstance PyProof.Rows.boot_isinstance (ma_cons (me_var (i := 3)) (ma_cons (me_ty rfl E.n_tuple PyProof.Rows.boot_tuple) (ma_nil)))))) (mw_or (mt_cmp (om_ne hr.units) (me_bi cm_len rfl E.n_len boot_len (ma_cons (me_var (i := 3)) (ma_nil))) (me_int) (nomark _)) (mw_or (mt_not (mt_tru (me_call (FnM.mono (ok_is_mark E) (by decide)) hr (takes_of rfl rfl rfl rfl) rfl E.g_is_mark (ma_cons (me_ix (om_ix hr.u1) (me_var (i := 3)) (me_int)) (ma_nil)) (al_cons al_nil)))) (mw_or1 (mt_not (mt_tru (me_callV (i := 2) (by intro j m e a ga; match j, e, ga with | 0, e, ga => (cases e; cases ga; exact FnM.mono (ok_is_name E) (by decide)) | 1, e, ga => (cases e; cases ga; exact FnM.mono (ok_is_text E) (by decide)) | n + 2, e, _ => cases e) hr (takes_of rfl rfl rfl rfl) (ma_cons (me_ix (om_ix hr.u1) (me_var (i := 3)) (me_int)) (ma_nil)) (al_cons al_nil))))))))) (mss_one (ms_ret (me_bl))) (mss_nil))))
  (mss_cons (ms_setLc (own := [("mark", 5), ("what", 6)]) (.inl rfl) rfl sc.nd rfl rfl rfl (mi_val (me_var (i := 0))) (blkOk_by (by kernel_rfl)) (fun _ _ _ _ _ => mg_tup rfl (mgs_cons (mg_name sc.nd) (mgs_cons (mg_name sc.nd) (mgs_nil)))) (fun _ _ _ _ _ => mts_nil) (fun _ _ _ _ _ => me_var (i := 5)) (by decide))
  (mss_one (ms_ret (me_and (me_call (FnM.mono (ok_is_rising E) (by decide)) hr (takes_of rfl rfl rfl rfl) rfl E.g_is_rising (ma_cons (me_var (i := 4)) (ma_nil)) (al_cons al_nil)) (me_one (me_call (FnM.mono (ok_has_heard E) (by decide)) hr (takes_of rfl rfl rfl rfl) rfl E.g_has_heard (ma_cons (me_var (i := 1)) (ma_cons (me_var (i := 4)) (ma_nil))) (al_cons (al_cons al_nil))))))))))
theorem sc27 : FnScope ["thing", "mark", "house", "count"] ["thing"] (defScope s27) := ⟨rfl, rfl, rfl, by decide +kernel, rfl, by decide +kernel, by decide +kernel⟩
theorem ok_is_known (E : Env K mg) : FnM P w K mg base (Gb K) 3 (He.ga K "is_known") 1 m_is_known := by
  have sc := sc27
  obtain ⟨fd, D⟩ := E.D27
  exact FnM.of D sc (fun _ _ _ _ _ _ us hl => match us, hl with | [_], _ => rfl) (fun cdv A outer s H E0 hr =>
  mss_cons (ms_if (MW.mt (mw_or (mt_not (mt_tru (me_bi cm_isi rfl E.n_isinstance PyProof.Rows.boot_isinstance (ma_cons (me_var (i := 0)) (ma_cons (me_ty rfl E.n_tuple PyProof.Rows.boot_tuple) (ma_nil)))))) (mw_or1 (mt_not (mt_tru (me_bi (cm_all rfl) rfl E.n_all PyProof.Rows.boot_all (ma_cons (me_lc (own := [("mark", 1)]) (.inl rfl) rfl sc.nd (mi_val (me_var (i := 0))) (blkOk_by (by kernel_rfl)) (fun _ _ _ _ _ => mg_name sc.nd) (fun _ _ _ _ _ => mts_nil) (fun _ _ _ _ _ => me_call (FnM.mono (ok_is_mark E) (by decide)) hr tk0 rfl E.g_is_mark (ma_cons (me_var (i := 1)) (ma_nil)) (al_cons al_nil)) (by decide)) (ma_nil)))))))) (mss_one (ms_ret (me_bl))) (mss_nil))
  (mss_one (ms_ret (me_call (FnM.mono (ok_is_rising E) (by decide)) hr (takes_of rfl rfl rfl rfl) rfl E.g_is_rising (ma_cons (me_lc (own := [("house", 2), ("count", 3)]) (.inl rfl) rfl sc.nd (mi_val (me_var (i := 0))) (blkOk_by (by kernel_rfl)) (fun _ _ _ _ _ => mg_tup rfl (mgs_cons (mg_name sc.nd) (mgs_cons (mg_name sc.nd) (mgs_nil)))) (fun _ _ _ _ _ => mts_nil) (fun _ _ _ _ _ => me_var (i := 2)) (by decide)) (ma_nil)) (al_cons al_nil)))))
theorem sc28 : FnScope ["thing"] ["thing"] (defScope s28) := ⟨rfl, rfl, rfl, by decide +kernel, rfl, by decide +kernel, by decide +kernel⟩
theorem ok_is_file (E : Env K mg) : FnM P w K mg base (Gb K) 4 (He.ga K "is_file") 1 m_is_file := by
  have sc := sc28
  obtain ⟨fd, D⟩ := E.D28
  exact FnM.of D sc (fun _ _ _ _ _ _ us hl => match us, hl with | [_], _ => rfl) (fun cdv A outer s H E0 hr =>
  mss_cons (ms_if (MW.mt (mw_or (mt_not (mt_tru (me_bi cm_isi rfl E.n_isinstance PyProof.Rows.boot_isinstance (ma_cons (me_var (i := 0)) (ma_cons (me_ty rfl E.n_tuple PyProof.Rows.boot_tuple) (ma_nil)))))) (mw_or1 (mt_cmp (om_ne hr.units) (me_bi cm_len rfl E.n_len boot_len (ma_cons (me_var (i := 0)) (ma_nil))) (me_int) (nomark _))))) (mss_one (ms_ret (me_bl))) (mss_nil))
  (mss_cons (ms_if (MW.mt (mw_or (mt_not (mt_tru (me_call (FnM.mono (ok_is_mark E) (by decide)) hr (takes_of rfl rfl rfl rfl) rfl E.g_is_mark (ma_cons (me_ix (om_ix hr.u1) (me_var (i := 0)) (me_int)) (ma_nil)) (al_cons al_nil)))) (mw_or (mt_not (mt_tru (me_call (FnM.mono (ok_is_name E) (by decide)) hr (takes_of rfl rfl rfl rfl) rfl E.g_is_name (ma_cons (me_ix (om_ix hr.u1) (me_var (i := 0)) (me_int)) (ma_nil)) (al_cons al_nil)))) (mw_or (mt_not (mt_tru (me_call (FnM.mono (ok_is_known E) (by decide)) hr (takes_of rfl rfl rfl rfl) rfl E.g_is_known (ma_cons (me_ix (om_ix hr.u1) (me_var (i := 0)) (me_int)) (ma_nil)) (al_cons al_nil)))) (mw_or1 (mt_not (mt_tru (me_call (FnM.mono (ok_is_within E) (by decide)) hr (takes_of rfl rfl rfl rfl) rfl E.g_is_within (ma_cons (me_ix (om_ix hr.u1) (me_var (i := 0)) (me_int)) (ma_cons (me_ix (om_ix hr.u1) (me_var (i := 0)) (me_int)) (ma_nil))) (al_cons (al_cons al_nil)))))))))) (mss_one (ms_ret (me_bl))) (mss_nil))
  (mss_one (ms_ret (me_and (me_call (FnM.mono (ok_are_marked E) (by decide)) hr (takes_of rfl rfl rfl rfl) rfl E.g_are_marked (ma_cons (me_ix (om_ix hr.u1) (me_var (i := 0)) (me_int)) (ma_cons (me_ix (om_ix hr.u1) (me_var (i := 0)) (me_int)) (ma_cons (me_fn rfl E.g_is_name rfl) (ma_nil)))) (al_cons (al_cons (al_cons al_nil)))) (me_one (me_call (FnM.mono (ok_are_marked E) (by decide)) hr (takes_of rfl rfl rfl rfl) rfl E.g_are_marked (ma_cons (me_ix (om_ix hr.u1) (me_var (i := 0)) (me_int)) (ma_cons (me_ix (om_ix hr.u1) (me_var (i := 0)) (me_int)) (ma_cons (me_fn rfl E.g_is_text rfl) (ma_nil)))) (al_cons (al_cons (al_cons al_nil))))))))))
theorem sc29 : FnScope ["mark"] ["mark"] (defScope s29) := ⟨rfl, rfl, rfl, by decide +kernel, rfl, by decide +kernel, by decide +kernel⟩
theorem ok_mark_text (E : Env K mg) : FnM P w K mg base (Gb K) 1 (He.ga K "mark_text") 1 m_mark_text := by
  have sc := sc29
  obtain ⟨fd, D⟩ := E.D29
  exact FnM.of D sc (fun _ _ _ _ _ _ us hl => match us, hl with | [_], _ => rfl) (fun cdv A outer s H E0 hr =>
  mss_one (ms_ret (me_fstr [eFmt (e2 vIx (eVar 0) (eC (.int 0))), eC (.str "."), eFmt (e2 vIx (eVar 0) (eC (.int 1)))] (.cons (me_fmt (me_ix (om_ix hr.u1) (me_var (i := 0)) (me_int))) (.cons (me_str) (.cons (me_fmt (me_ix (om_ix hr.u1) (me_var (i := 0)) (me_int))) (.nil)))))))
theorem sc30 : FnScope ["file", "names", "mark", "name", "texts", "text", "parts", "part"] ["file"] (defScope s30) := ⟨rfl, rfl, rfl, by decide +kernel, rfl, by decide +kernel, by decide +kernel⟩
theorem ok_written (E : Env K mg) : FnM P w K mg base (Gb K) 2 (He.ga K "written") 1 m_written := by
  have sc := sc30
  obtain ⟨fd, D⟩ := E.D30
  exact FnM.of D sc (fun _ _ _ _ _ _ us hl => match us, hl with | [_], _ => rfl) (fun cdv A outer s H E0 hr =>
  mss_cons (ms_setLc (own := [("mark", 2), ("name", 3)]) (.inl rfl) rfl sc.nd rfl rfl rfl (mi_val (me_ix (om_ix hr.u1) (me_var (i := 0)) (me_int))) (blkOk_by (by kernel_rfl)) (fun _ _ _ _ _ => mg_tup rfl (mgs_cons (mg_name sc.nd) (mgs_cons (mg_name sc.nd) (mgs_nil)))) (fun _ _ _ _ _ => mts_nil) (fun _ _ _ _ _ => me_op om_add (me_op om_add (me_call (FnM.mono (ok_mark_text E) (by decide)) hr tk0 rfl E.g_mark_text (ma_cons (me_var (i := 2)) (ma_nil)) (al_cons al_nil)) (me_str)) (me_var (i := 3))) (by decide))
  (mss_cons (ms_setLc (own := [("mark", 2), ("text", 5)]) (.inl rfl) rfl sc.nd rfl rfl rfl (mi_val (me_ix (om_ix hr.u1) (me_var (i := 0)) (me_int))) (blkOk_by (by kernel_rfl)) (fun _ _ _ _ _ => mg_tup rfl (mgs_cons (mg_name sc.nd) (mgs_cons (mg_name sc.nd) (mgs_nil)))) (fun _ _ _ _ _ => mts_nil) (fun _ _ _ _ _ => me_op om_add (me_op om_add (me_op om_add (me_op om_add (me_call (FnM.mono (ok_mark_text E) (by decide)) hr tk0 rfl E.g_mark_text (ma_cons (me_var (i := 2)) (ma_nil)) (al_cons al_nil)) (me_str)) (me_biT cm_str rfl E.n_str PyProof.Rows.boot_str (ma_cons (me_bi cm_len rfl E.n_len boot_len (ma_cons (me_var (i := 5)) (ma_nil))) (ma_nil)))) (me_str)) (me_var (i := 5))) (by decide))
  (mss_cons (ms_set (i := 6) sc.nd (me_lst (ma_cons (me_call (FnM.mono (ok_mark_text E) (by decide)) hr (takes_of rfl rfl rfl rfl) rfl E.g_mark_text (ma_cons (me_ix (om_ix hr.u1) (me_var (i := 0)) (me_int)) (ma_nil)) (al_cons al_nil)) (ma_cons (me_ix (om_ix hr.u1) (me_var (i := 0)) (me_int)) (ma_cons (me_bm (T := .str) mm_join PySem.F.plainAttrs_str PySem.F.slot_str_join PySem.F.type_str_join (me_str) (ma_cons (me_lc (own := [("mark", 2)]) (.inl rfl) rfl sc.nd (mi_val (me_ix (om_ix hr.u1) (me_var (i := 0)) (me_int))) (blkOk_by (by kernel_rfl)) (fun _ _ _ _ _ => mg_name sc.nd) (fun _ _ _ _ _ => mts_nil) (fun _ _ _ _ _ => me_call (FnM.mono (ok_mark_text E) (by decide)) hr tk0 rfl E.g_mark_text (ma_cons (me_var (i := 2)) (ma_nil)) (al_cons al_nil)) (by decide)) (ma_nil))) (ma_nil))))))
  (mss_cons (ms_set (i := 6) sc.nd (me_op om_add (me_var (i := 6)) (me_lst (ma_cons (me_bm (T := .str) mm_join PySem.F.plainAttrs_str PySem.F.slot_str_join PySem.F.type_str_join (me_str) (ma_cons (me_var (i := 1)) (ma_nil))) (ma_cons (me_bm (T := .str) mm_join PySem.F.plainAttrs_str PySem.F.slot_str_join PySem.F.type_str_join (me_str) (ma_cons (me_var (i := 4)) (ma_nil))) (ma_nil))))))
  (mss_one (ms_ret (me_bm (T := .str) mm_join PySem.F.plainAttrs_str PySem.F.slot_str_join PySem.F.type_str_join (me_str) (ma_cons (me_lc (own := [("part", 7)]) (.inl rfl) rfl sc.nd (mi_val (me_var (i := 6))) (blkOk_by (by kernel_rfl)) (fun _ _ _ _ _ => mg_name sc.nd) (fun _ _ _ _ _ => mts_nil) (fun _ _ _ _ _ => me_op om_add (me_var (i := 7)) (me_str)) (by decide)) (ma_nil)))))))))
theorem sc31 : FnScope ["text", "reader", "mark", "first", "known", "part", "names", "texts", "found"] ["text"] (defScope s31) := ⟨rfl, rfl, rfl, by decide +kernel, rfl, by decide +kernel, by decide +kernel⟩
theorem ok_read_k20 (E : Env K mg) : FnM P w K mg base (Gb K) 5 (He.ga K "read") 1 m_read_k20 := by
  have sc := sc31
  obtain ⟨fd, D⟩ := E.D31
  exact FnM.of D sc (fun _ _ _ _ _ _ us hl => match us, hl with | [_], _ => rfl) (fun cdv A outer s H E0 hr =>
  mss_cons (ms_set (i := 1) sc.nd (me_make E.mk_Reader rfl (FnM.mono (ok_Reader_init E) (by decide)) hr (takes_of rfl rfl rfl rfl) rfl E.g_Reader (ma_cons (me_var (i := 0)) (ma_nil)) (al_cons al_nil) nx_Reader_init))
  (mss_cons (ms_set (i := 2) sc.nd (me_call (FnM.mono (ok_mark_of E) (by decide)) hr (takes_of rfl rfl rfl rfl) rfl E.g_mark_of (ma_cons (me_meth (me_var (i := 1)) rfl E.c_Reader E.m_Reader_until nf_Reader_until (FnM.mono (ok_Reader_until E) (by decide)) hr (takes_of rfl rfl rfl rfl) (ma_cons (me_str) (ma_nil)) (al_cons al_nil)) (ma_nil)) (al_cons al_nil)))
  (mss_cons (ms_set (i := 3) sc.nd (me_meth (me_var (i := 1)) rfl E.c_Reader E.m_Reader_until nf_Reader_until (FnM.mono (ok_Reader_until E) (by decide)) hr (takes_of rfl rfl rfl rfl) (ma_cons (me_str) (ma_nil)) (al_cons al_nil)))
  (mss_cons (ms_setLcX (own := [("part", 5)]) rfl rfl (takes_of rfl rfl rfl rfl) rfl sc.nd rfl rfl rfl (mi_val (me_call (FnM.mono (ok_listed E) (by decide)) hr (takes_of rfl rfl rfl rfl) rfl E.g_listed (ma_cons (me_meth (me_var (i := 1)) rfl E.c_Reader E.m_Reader_until nf_Reader_until (FnM.mono (ok_Reader_until E) (by decide)) hr (takes_of rfl rfl rfl rfl) (ma_cons (me_str) (ma_nil)) (al_cons al_nil)) (ma_nil)) (al_cons al_nil))) (blkOk_by (by kernel_rfl)) (fun _ _ _ _ _ => mg_name sc.nd) (fun _ _ _ _ _ W2 _ tk2 => me_call (FnM.mono (ok_mark_of E) (by decide)) hr tk2 rfl E.g_mark_of (ma_cons (me_var (i := 5)) (ma_nil)) (al_cons al_nil)) (by decide))
  (mss_cons (ms_setLcX (own := [("part", 5)]) rfl rfl (takes_of rfl rfl rfl rfl) rfl sc.nd rfl rfl rfl (mi_val (me_call (FnM.mono (ok_listed E) (by decide)) hr (takes_of rfl rfl rfl rfl) rfl E.g_listed (ma_cons (me_meth (me_var (i := 1)) rfl E.c_Reader E.m_Reader_until nf_Reader_until (FnM.mono (ok_Reader_until E) (by decide)) hr (takes_of rfl rfl rfl rfl) (ma_cons (me_str) (ma_nil)) (al_cons al_nil)) (ma_nil)) (al_cons al_nil))) (blkOk_by (by kernel_rfl)) (fun _ _ _ _ _ => mg_name sc.nd) (fun _ _ _ _ _ W2 _ tk2 => me_call (FnM.mono (ok_named E) (by decide)) hr tk2 rfl E.g_named (ma_cons (me_var (i := 5)) (ma_nil)) (al_cons al_nil)) (by decide))
  (mss_cons (ms_set (i := 7) sc.nd (me_call (FnM.mono (ok_texts_at E) (by decide)) hr (takes_of rfl rfl rfl rfl) rfl E.g_texts_at (ma_cons (me_var (i := 1)) (ma_nil)) (al_cons al_nil)))
  (mss_cons (ms_set (i := 8) sc.nd (me_tup (ma_cons (me_var (i := 2)) (ma_cons (me_var (i := 3)) (ma_cons (me_biT cm_tuple rfl E.n_tuple PyProof.Rows.boot_tuple (ma_cons (me_var (i := 4)) (ma_nil))) (ma_cons (me_biT cm_tuple rfl E.n_tuple PyProof.Rows.boot_tuple (ma_cons (me_var (i := 6)) (ma_nil))) (ma_cons (me_biT cm_tuple rfl E.n_tuple PyProof.Rows.boot_tuple (ma_cons (me_var (i := 7)) (ma_nil))) (ma_nil))))))))
  (mss_cons (ms_if (MW.mt (mw_or (mt_cmp (om_ne hr.units) (me_fld (me_var (i := 1)) rfl E.c_Reader E.na_Reader_place nd_Reader rfl) (me_bi cm_len rfl E.n_len boot_len (ma_cons (me_var (i := 0)) (ma_nil))) (nomark _)) (mw_or (mt_not (mt_tru (me_call (FnM.mono (ok_is_file E) (by decide)) hr (takes_of rfl rfl rfl rfl) rfl E.g_is_file (ma_cons (me_var (i := 8)) (ma_nil)) (al_cons al_nil)))) (mw_or1 (mt_cmp (om_ne hr.units) (me_call (FnM.mono (ok_written E) (by decide)) hr (takes_of rfl rfl rfl rfl) rfl E.g_written (ma_cons (me_var (i := 8)) (ma_nil)) (al_cons al_nil)) (me_var (i := 0)) (nomark _)))))) (mss_one (ms_raise rfl (takes_of rfl rfl rfl rfl) PySem.F.excBase_ValueError E.x_NoWriting rfl E.g_NoWriting E.k_NoWriting (raises_own E.sb_NoWriting E.ty_NoWriting) rfl)) (mss_nil))
  (mss_one (ms_ret (me_var (i := 8))))))))))))
theorem sc32 : FnScope ["_law_text_here", "_law_told", "e"] ["_law_text_here"] (defScope s32) := ⟨rfl, rfl, rfl, by decide +kernel, rfl, by decide +kernel, by decide +kernel⟩
theorem ok_law_read (E : Env K mg) : FnM P w K mg base (Gb K) 6 (He.ga K "_law_read") 1 m_law_read := by
  have sc := sc32
  obtain ⟨fd, D⟩ := E.D32
  exact FnM.of D sc (fun _ _ _ _ _ _ us hl => match us, hl with | [_], _ => rfl) (fun cdv A outer s H E0 hr =>
  mss_cons (ms_set (i := 1) sc.nd (me_non))
  (mss_cons (ms_tryIs1 (x := "ShelfError") (cv := .ref (He.ga K "ShelfError")) (tv := .ref (He.ga K "NoWriting")) (rows := [none, none, none, none, some [true]]) (i := 1) (j := 2) rfl rfl sc.nd rfl rfl ⟨rfl, by decide, .inl E.g_ShelfError⟩ (takes_of rfl rfl rfl rfl) (by exact ⟨⟨_, rfl, E.em_NoWriting_ShelfError, E.ec_NoWriting, .cons E.kt_NoWriting_NoWriting (.nil)⟩, trivial⟩) (by decide) (fun W1 _ _ tk1 _ => mss_one (ms_set (i := 1) sc.nd (me_call (FnM.mono (ok_read_k20 E) (by decide)) hr tk1 rfl E.g_read (ma_cons (me_var (i := 0)) (ma_nil)) (al_cons al_nil)))) rfl (by first | exact Or.inl rfl | exact Or.inr rfl) (isE_glob rfl E.n_isinstance rfl E.g_NoWriting))
  (mss_one (ms_ret (me_var (i := 1))))))
theorem sc33 : FnScope ["_law_found", "_law_due", "_law_one", "_law_other"] ["_law_found", "_law_due"] (defScope s33) := ⟨rfl, rfl, rfl, by decide +kernel, rfl, by decide +kernel, by decide +kernel⟩
theorem okr_law_same (E : Env K mg) : ∀ d : Nat, FnM P w K mg base (Gb K) (1 + d) (He.ga K "_law_same") 2 (m_law_same d)
  | 0 => by
    have sc := sc33
    obtain ⟨fd, D⟩ := E.D33
    exact FnM.mono (FnM.bad D sc (fun _ _ _ _ _ _ us hl => match us, hl with | [_, _], _ => rfl)) (Nat.zero_le _)
  | d + 1 => by
    have sc := sc33
    obtain ⟨fd, D⟩ := E.D33
    have ih := okr_law_same E d
    exact FnM.of (k := 1 + d) D sc (fun _ _ _ _ _ _ us hl => match us, hl with | [_, _], _ => rfl) (fun cdv A outer s H E0 hr =>
  mss_cons (ms_if (mt_tru (me_bi cm_isi rfl E.n_isinstance PyProof.Rows.boot_isinstance (ma_cons (me_var (i := 1)) (ma_cons (me_ty rfl E.n_tuple PyProof.Rows.boot_tuple) (ma_nil))))) (mss_cons (ms_if (MW.mt (mw_or (mt_not (mt_tru (me_bi cm_isi rfl E.n_isinstance PyProof.Rows.boot_isinstance (ma_cons (me_var (i := 0)) (ma_cons (me_ty rfl E.n_tuple PyProof.Rows.boot_tuple) (ma_nil)))))) (mw_or1 (mt_cmp (om_ne hr.units) (me_bi cm_len rfl E.n_len boot_len (ma_cons (me_var (i := 0)) (ma_nil))) (me_bi cm_len rfl E.n_len boot_len (ma_cons (me_var (i := 1)) (ma_nil))) (nomark _))))) (mss_one (ms_ret (me_bl))) (mss_nil))
  (mss_one (ms_ret (me_bi (cm_all rfl) rfl E.n_all PyProof.Rows.boot_all (ma_cons (me_lc (own := [("_law_one", 2), ("_law_other", 3)]) (.inl rfl) rfl sc.nd (mi_zip rfl E.n_zip (ma_cons (me_var (i := 0)) (ma_cons (me_var (i := 1)) (ma_nil)))) (blkOk_by (by kernel_rfl)) (fun _ _ _ _ _ => mg_tup rfl (mgs_cons (mg_name sc.nd) (mgs_cons (mg_name sc.nd) (mgs_nil)))) (fun _ _ _ _ _ => mts_nil) (fun _ _ _ _ _ => me_call (FnM.mono ih (by omega)) hr tk0 rfl E.g__law_same (ma_cons (me_var (i := 2)) (ma_cons (me_var (i := 3)) (ma_nil))) (al_cons (al_cons al_nil))) (by decide)) (ma_nil)))))) (mss_nil))
  (mss_cons (ms_if (mt_cmp om_is (me_var (i := 1)) (me_non) (nomark _)) (mss_one (ms_ret (me_cmp om_is (me_var (i := 0)) (me_non) (nomark _)))) (mss_nil))
  (mss_cons (ms_if (MW.mt (mw_or (mt_tru (me_bi cm_isi rfl E.n_isinstance PyProof.Rows.boot_isinstance (ma_cons (me_var (i := 1)) (ma_cons (me_ty rfl E.n_bool PyProof.Rows.boot_bool) (ma_nil))))) (mw_or1 (mt_tru (me_bi cm_isi rfl E.n_isinstance PyProof.Rows.boot_isinstance (ma_cons (me_var (i := 0)) (ma_cons (me_ty rfl E.n_bool PyProof.Rows.boot_bool) (ma_nil)))))))) (mss_one (ms_ret (me_and (me_bi cm_isi rfl E.n_isinstance PyProof.Rows.boot_isinstance (ma_cons (me_var (i := 1)) (ma_cons (me_ty rfl E.n_bool PyProof.Rows.boot_bool) (ma_nil)))) (me_and (me_bi cm_isi rfl E.n_isinstance PyProof.Rows.boot_isinstance (ma_cons (me_var (i := 0)) (ma_cons (me_ty rfl E.n_bool PyProof.Rows.boot_bool) (ma_nil)))) (me_one (me_cmp (om_eq hr.units) (me_var (i := 0)) (me_var (i := 1)) (nomark _))))))) (mss_nil))
  (mss_one (ms_ret (me_and (me_bi cm_isi rfl E.n_isinstance PyProof.Rows.boot_isinstance (ma_cons (me_var (i := 0)) (ma_cons (me_tup (ma_cons (me_ty rfl E.n_int PyProof.Rows.boot_int) (ma_cons (me_ty rfl E.n_str PyProof.Rows.boot_str) (ma_nil)))) (ma_nil)))) (me_one (me_cmp (om_eq hr.units) (me_var (i := 0)) (me_var (i := 1)) (nomark _)))))))))
theorem ok_law_same (E : Env K mg) : FnM P w K mg base (Gb K) 32 (He.ga K "_law_same") 2 s_law_same := (okr_law_same E 31).le le_law_same
theorem sc34 : FnScope ["_law_text_here", "_law_found"] ["_law_text_here"] (defScope s34) := ⟨rfl, rfl, rfl, by decide +kernel, rfl, by decide +kernel, by decide +kernel⟩
theorem ok_law_is_told_v2 (E : Env K mg) : FnM P w K mg base (Gb K) 33 (He.ga K "_law_is_told") 1 m_law_is_told_v2 := by
  have sc := sc34
  obtain ⟨fd, D⟩ := E.D34
  exact FnM.of D sc (fun _ _ _ _ _ _ us hl => match us, hl with | [_], _ => rfl) (fun cdv A outer s H E0 hr =>
  mss_cons (ms_set (i := 1) sc.nd (me_call (FnM.mono (ok_law_read E) (by decide)) hr (takes_of rfl rfl rfl rfl) rfl E.g__law_read (ma_cons (me_var (i := 0)) (ma_nil)) (al_cons al_nil)))
  (mss_cons (ms_if (mt_cmp om_isT (me_var (i := 1)) (me_bl) (nomark _)) (mss_one (ms_ret (me_bl))) (mss_nil))
  (mss_cons (ms_if (mt_cmp om_isNot (me_call (FnM.mono (ok_is_file E) (by decide)) hr (takes_of rfl rfl rfl rfl) rfl E.g_is_file (ma_cons (me_var (i := 1)) (ma_nil)) (al_cons al_nil)) (me_bl) (nomark _)) (mss_one (ms_ret (me_bl))) (mss_nil))
  (mss_one (ms_ret (me_and (me_cmp (om_eq hr.units) (me_call (FnM.mono (ok_law_written E) (by decide)) hr (takes_of rfl rfl rfl rfl) rfl E.g__law_written (ma_cons (me_var (i := 1)) (ma_nil)) (al_cons al_nil)) (me_var (i := 0)) (nomark _)) (me_and (me_call (FnM.mono (ok_law_same E) (by decide)) hr (takes_of rfl rfl rfl rfl) rfl E.g__law_same (ma_cons (me_call (FnM.mono (ok_written E) (by decide)) hr (takes_of rfl rfl rfl rfl) rfl E.g_written (ma_cons (me_var (i := 1)) (ma_nil)) (al_cons al_nil)) (ma_cons (me_var (i := 0)) (ma_nil))) (al_cons (al_cons al_nil))) (me_one (me_call (FnM.mono (ok_law_same E) (by decide)) hr (takes_of rfl rfl rfl rfl) rfl E.g__law_same (ma_cons (me_call (FnM.mono (ok_read_k20 E) (by decide)) hr (takes_of rfl rfl rfl rfl) rfl E.g_read (ma_cons (me_var (i := 0)) (ma_nil)) (al_cons al_nil)) (ma_cons (me_var (i := 1)) (ma_nil))) (al_cons (al_cons al_nil)))))))))))
theorem sc35 : FnScope ["_law_script", "_law_k", "_law_cell_here", "_law_file_here", "_law_text_here", "_law_turn", "_law_many", "_law_j", "_law_mark_here", "_law_words", "_law_at", "_law_pair", "_law_other"] ["_law_script"] (defScope s35) := ⟨rfl, rfl, rfl, by decide +kernel, rfl, by decide +kernel, by decide +kernel⟩
theorem ok_law (E : Env K mg) {fd : FuncData} (D : FunD K "law" "law" (defArgs s35) (defBody s35) (defScope s35) [] [] (He.ga K "law") fd) : FnOk P w K mg base (L2.CX P w) 34 (He.ga K "law") fd ["_law_script"] (spM (Gb K) 1 m_law_k20) := by
  have sc := sc35
  exact FnM.at_ D sc (fun cdv A outer s H E0 hr =>
  mss_cons (ms_for (passes_of rfl) rfl (mi_range1 rfl E.n_range (ma_cons (me_int) (ma_nil))) (mg_name sc.nd) (mss_cons (ms_set (i := 2) sc.nd (me_call (FnM.mono (ok_law_cell E) (by decide)) hr (takes_of rfl rfl rfl rfl) rfl E.g__law_cell (ma_cons (me_var (i := 0)) (ma_cons (me_var (i := 1)) (ma_nil))) (al_cons (al_cons al_nil))))
  (mss_cons (ms_set (i := 3) sc.nd (me_call (FnM.mono (ok_law_file E) (by decide)) hr (takes_of rfl rfl rfl rfl) rfl E.g__law_file (ma_cons (me_var (i := 2)) (ma_cons (me_call (FnM.mono (ok_law_which E) (by decide)) hr (takes_of rfl rfl rfl rfl) rfl E.g__law_which (ma_cons (me_op om_add (me_var (i := 2)) (me_int)) (ma_nil)) (al_cons al_nil)) (ma_cons (me_call (FnM.mono (ok_law_name E) (by decide)) hr (takes_of rfl rfl rfl rfl) rfl E.g__law_name (ma_cons (me_op om_add (me_var (i := 2)) (me_int)) (ma_nil)) (al_cons al_nil)) (ma_cons (me_call (FnM.mono (ok_law_cell E) (by decide)) hr (takes_of rfl rfl rfl rfl) rfl E.g__law_cell (ma_cons (me_var (i := 0)) (ma_cons (me_op om_add (me_var (i := 1)) (me_int)) (ma_nil))) (al_cons (al_cons al_nil))) (ma_nil))))) (al_cons (al_cons (al_cons (al_cons al_nil))))))
  (mss_cons (ms_set (i := 4) sc.nd (me_call (FnM.mono (ok_law_written E) (by decide)) hr (takes_of rfl rfl rfl rfl) rfl E.g__law_written (ma_cons (me_var (i := 3)) (ma_nil)) (al_cons al_nil)))
  (mss_cons (ms_for (passes_of rfl) rfl (mi_range1 rfl E.n_range (ma_cons (me_int) (ma_nil))) (mg_name sc.nd) (mss_cons (ms_set (i := 4) sc.nd (me_call (FnM.mono (ok_law_changed E) (by decide)) hr (takes_of rfl rfl rfl rfl) rfl E.g__law_changed (ma_cons (me_var (i := 4)) (ma_cons (me_op om_add (me_op om_add (me_call (FnM.mono (ok_law_cell E) (by decide)) hr (takes_of rfl rfl rfl rfl) rfl E.g__law_cell (ma_cons (me_var (i := 0)) (ma_cons (me_op om_add (me_int) (me_var (i := 5))) (ma_nil))) (al_cons (al_cons al_nil))) (me_op om_mul (me_int) (me_var (i := 5)))) (me_var (i := 1))) (ma_nil))) (al_cons (al_cons al_nil))))
  (mss_one (ms_if (mt_not (mt_tru (me_call (FnM.mono (ok_law_is_told_v2 E) (by decide)) hr (takes_of rfl rfl rfl rfl) rfl E.g__law_is_told (ma_cons (me_var (i := 4)) (ma_nil)) (al_cons al_nil)))) (mss_one (ms_ret (me_bl))) (mss_nil)))))
  (mss_cons (ms_set (i := 6) sc.nd (me_call (FnM.mono (ok_law_mix E) (by decide)) hr (takes_of rfl rfl rfl rfl) rfl E.g__law_mix (ma_cons (me_var (i := 2)) (ma_cons (me_int) (ma_cons (me_int) (ma_nil)))) (al_cons (al_cons (al_cons al_nil)))))
  (mss_cons (ms_if (mt_not (mt_tru (me_call (FnM.mono (ok_law_is_told_v2 E) (by decide)) hr (takes_of rfl rfl rfl rfl) rfl E.g__law_is_told (ma_cons (me_bm (T := .str) mm_join PySem.F.plainAttrs_str PySem.F.slot_str_join PySem.F.type_str_join (me_str) (ma_cons (me_lc (own := [("_law_j", 7)]) (.inl rfl) rfl sc.nd (mi_range1 rfl E.n_range (ma_cons (me_var (i := 6)) (ma_nil))) (blkOk_by (by kernel_rfl)) (fun _ _ _ _ _ => mg_name sc.nd) (fun _ _ _ _ _ => mts_nil) (fun _ _ _ _ _ => me_ix (om_ix hr.u1) (me_str) (me_call (FnM.mono (ok_law_mix E) (by decide)) hr tk0 rfl E.g__law_mix (ma_cons (me_op om_add (me_var (i := 2)) (me_op om_mul (me_int) (me_var (i := 7)))) (ma_cons (me_int) (ma_cons (me_int) (ma_nil)))) (al_cons (al_cons (al_cons al_nil))))) (by decide)) (ma_nil))) (ma_nil)) (al_cons al_nil)))) (mss_one (ms_ret (me_bl))) (mss_nil))
  (mss_one (ms_for (passes_of rfl) rfl (mi_enumT rfl E.n_enumerate (ma_cons (me_ix (om_ix hr.u1) (me_var (i := 3)) (me_int)) (ma_nil))) (mg_tup rfl (mgs_cons (mg_name sc.nd) (mgs_cons (mg_tup rfl (mgs_cons (mg_name sc.nd) (mgs_cons (mg_name sc.nd) (mgs_nil)))) (mgs_nil)))) (mss_cons (ms_set (i := 10) sc.nd (me_call (FnM.mono (ok_law_mix E) (by decide)) hr (takes_of rfl rfl rfl rfl) rfl E.g__law_mix (ma_cons (me_op om_add (me_var (i := 2)) (me_var (i := 7))) (ma_cons (me_int) (ma_cons (me_op om_add (me_bi cm_len rfl E.n_len boot_len (ma_cons (me_var (i := 9)) (ma_nil))) (me_int)) (ma_nil)))) (al_cons (al_cons (al_cons al_nil)))))
  (mss_one (ms_if (mt_cmp om_lt (me_var (i := 10)) (me_bi cm_len rfl E.n_len boot_len (ma_cons (me_var (i := 9)) (ma_nil))) (nomark _)) (mss_cons (ms_set (i := 11) sc.nd (me_tup (ma_cons (me_var (i := 8)) (ma_cons (me_op om_add (me_op om_add (mslice (me_var (i := 9)) (mo_none) (mo_some (me_var (i := 10)))) (me_str)) (mslice (me_var (i := 9)) (mo_some (me_op om_add (me_var (i := 10)) (me_int))) (mo_none))) (ma_nil)))))
  (mss_cons (ms_set (i := 12) sc.nd (me_op om_add (me_op om_add (mslice (me_ix (om_ix hr.u1) (me_var (i := 3)) (me_int)) (mo_none) (mo_some (me_var (i := 7)))) (me_tup (ma_cons (me_var (i := 11)) (ma_nil)))) (mslice (me_ix (om_ix hr.u1) (me_var (i := 3)) (me_int)) (mo_some (me_op om_add (me_var (i := 7)) (me_int))) (mo_none))))
  (mss_one (ms_if (mt_not (mt_tru (me_call (FnM.mono (ok_law_same E) (by decide)) hr (takes_of rfl rfl rfl rfl) rfl E.g__law_same (ma_cons (me_call (FnM.mono (ok_read_k20 E) (by decide)) hr (takes_of rfl rfl rfl rfl) rfl E.g_read (ma_cons (me_call (FnM.mono (ok_law_written E) (by decide)) hr (takes_of rfl rfl rfl rfl) rfl E.g__law_written (ma_cons (me_op om_add (mslice (me_var (i := 3)) (mo_none) (mo_some (me_int))) (me_tup (ma_cons (me_var (i := 12)) (ma_nil)))) (ma_nil)) (al_cons al_nil)) (ma_nil)) (al_cons al_nil)) (ma_cons (me_op om_add (mslice (me_var (i := 3)) (mo_none) (mo_some (me_int))) (me_tup (ma_cons (me_var (i := 12)) (ma_nil)))) (ma_nil))) (al_cons (al_cons al_nil))))) (mss_one (ms_ret (me_bl))) (mss_nil))))) (mss_nil)))))))))))))
  (mss_one (ms_ret (me_bl))))
end
theorem env {K : PySem.W.Frag} {h : Heap} {mg : Str → Option Value} (X : K.In h) (G0 : h.Ns mainGlobals mg) (c : He.SaysD fa fn K) (cx : (ex K).all id = true) : Env K mg where
  g__law_cell := He.glo_ok X G0 (c.fact 0 (f := .glo "_law_cell") rfl)
  g__law_mix := He.glo_ok X G0 (c.fact 1 (f := .glo "_law_mix") rfl)
  g__law_known := He.glo_ok X G0 (c.fact 2 (f := .glo "_law_known") rfl)
  g__law_name := He.glo_ok X G0 (c.fact 3 (f := .glo "_law_name") rfl)
  g__law_text := He.glo_ok X G0 (c.fact 4 (f := .glo "_law_text") rfl)
  g__law_marked := He.glo_ok X G0 (c.fact 5 (f := .glo "_law_marked") rfl)
  g__law_file := He.glo_ok X G0 (c.fact 6 (f := .glo "_law_file") rfl)
  g__law_mark := He.glo_ok X G0 (c.fact 7 (f := .glo "_law_mark") rfl)
  g__law_written := He.glo_ok X G0 (c.fact 8 (f := .glo "_law_written") rfl)
  g__law_which := He.glo_ok X G0 (c.fact 9 (f := .glo "_law_which") rfl)
  g__law_changed := He.glo_ok X G0 (c.fact 10 (f := .glo "_law_changed") rfl)
  g_number_of := He.glo_ok X G0 (c.fact 11 (f := .glo "number_of") rfl)
  g_mark_of := He.glo_ok X G0 (c.fact 12 (f := .glo "mark_of") rfl)
  g_texts_at := He.glo_ok X G0 (c.fact 13 (f := .glo "texts_at") rfl)
  g_named := He.glo_ok X G0 (c.fact 14 (f := .glo "named") rfl)
  g_listed := He.glo_ok X G0 (c.fact 15 (f := .glo "listed") rfl)
  g_is_rising := He.glo_ok X G0 (c.fact 16 (f := .glo "is_rising") rfl)
  g_is_within := He.glo_ok X G0 (c.fact 17 (f := .glo "is_within") rfl)
  g_has_heard := He.glo_ok X G0 (c.fact 18 (f := .glo "has_heard") rfl)
  g_is_number := He.glo_ok X G0 (c.fact 19 (f := .glo "is_number") rfl)
  g_is_mark := He.glo_ok X G0 (c.fact 20 (f := .glo "is_mark") rfl)
  g_is_name := He.glo_ok X G0 (c.fact 21 (f := .glo "is_name") rfl)
  g_is_text := He.glo_ok X G0 (c.fact 22 (f := .glo "is_text") rfl)
  g_are_marked := He.glo_ok X G0 (c.fact 23 (f := .glo "are_marked") rfl)
  g_is_known := He.glo_ok X G0 (c.fact 24 (f := .glo "is_known") rfl)
  g_is_file := He.glo_ok X G0 (c.fact 25 (f := .glo "is_file") rfl)
  g_mark_text := He.glo_ok X G0 (c.fact 26 (f := .glo "mark_text") rfl)
  g_written := He.glo_ok X G0 (c.fact 27 (f := .glo "written") rfl)
  g_read := He.glo_ok X G0 (c.fact 28 (f := .glo "read") rfl)
  g__law_read := He.glo_ok X G0 (c.fact 29 (f := .glo "_law_read") rfl)
  g__law_same := He.glo_ok X G0 (c.fact 30 (f := .glo "_law_same") rfl)
  g__law_is_told := He.glo_ok X G0 (c.fact 31 (f := .glo "_law_is_told") rfl)
  g_law := He.glo_ok X G0 (c.fact 32 (f := .glo "law") rfl)
  n_len := He.free_ok X G0 (c.fact 33 (f := .free "len") rfl)
  n_isinstance := He.free_ok X G0 (c.fact 34 (f := .free "isinstance") rfl)
  n_all := He.free_ok X G0 (c.fact 35 (f := .free "all") rfl)
  n_any := He.free_ok X G0 (c.fact 36 (f := .free "any") rfl)
  n_range := He.free_ok X G0 (c.fact 37 (f := .free "range") rfl)
  n_sorted := He.free_ok X G0 (c.fact 38 (f := .free "sorted") rfl)
  n_tuple := He.free_ok X G0 (c.fact 39 (f := .free "tuple") rfl)
  n_str := He.free_ok X G0 (c.fact 40 (f := .free "str") rfl)
  n_int := He.free_ok X G0 (c.fact 41 (f := .free "int") rfl)
  n_bool := He.free_ok X G0 (c.fact 42 (f := .free "bool") rfl)
  n_zip := He.free_ok X G0 (c.fact 43 (f := .free "zip") rfl)
  n_enumerate := He.free_ok X G0 (c.fact 44 (f := .free "enumerate") rfl)
  LETTERS := He.str_ok X G0 (c.fact 45 (f := .str "LETTERS" "abcdefghijklmnopqrstuvwxyz") rfl)
  g_Reader := He.glo_ok X G0 (c.fact 46 (f := .glo "Reader") rfl)
  c_Reader := He.cls_ok (c.fact 47 (f := .cls "Reader") rfl)
  mk_Reader := He.mkr_ok (c.fact 48 (f := .mkr "Reader") rfl)
  m_Reader_until := He.meth_ok (c.fact 49 (f := .meth "Reader" "until") rfl)
  m_Reader_signs := He.meth_ok (c.fact 50 (f := .meth "Reader" "signs") rfl)
  na_Reader_text := He.noat_ok (c.fact 51 (f := .noat "Reader" "text") rfl)
  na_Reader_place := He.noat_ok (c.fact 52 (f := .noat "Reader" "place") rfl)
  g_ShelfError := He.glo_ok X G0 (c.fact 53 (f := .glo "ShelfError") rfl)
  x_ShelfError := (He.exc_ok (c.fact 54 (f := .exc "ShelfError") rfl)).1
  k_ShelfError := (He.exc_ok (c.fact 54 (f := .exc "ShelfError") rfl)).2.1
  sb_ShelfError := (He.exc_ok (c.fact 54 (f := .exc "ShelfError") rfl)).2.2.1
  ty_ShelfError := (He.exc_ok (c.fact 54 (f := .exc "ShelfError") rfl)).2.2.2
  g_NoWriting := He.glo_ok X G0 (c.fact 55 (f := .glo "NoWriting") rfl)
  x_NoWriting := (He.exc_ok (c.fact 56 (f := .exc "NoWriting") rfl)).1
  k_NoWriting := (He.exc_ok (c.fact 56 (f := .exc "NoWriting") rfl)).2.1
  sb_NoWriting := (He.exc_ok (c.fact 56 (f := .exc "NoWriting") rfl)).2.2.1
  ty_NoWriting := (He.exc_ok (c.fact 56 (f := .exc "NoWriting") rfl)).2.2.2
  em_ShelfError_ShelfError := He.exm_ok (c.fact 57 (f := .exm "ShelfError" "ShelfError" true) rfl)
  em_NoWriting_ShelfError := He.exm_ok (c.fact 58 (f := .exm "NoWriting" "ShelfError" true) rfl)
  ec_NoWriting := excC_ok (ex_at cx 0)
  kt_NoWriting_NoWriting := of_decide_eq_true (ex_at cx 1)
  D0 := c.def_ 0 (d := d0) rfl
  D1 := c.def_ 1 (d := d1) rfl
  D2 := c.def_ 2 (d := d2) rfl
  D3 := c.def_ 3 (d := d3) rfl
  D4 := c.def_ 4 (d := d4) rfl
  D5 := c.def_ 5 (d := d5) rfl
  D6 := c.def_ 6 (d := d6) rfl
  D7 := c.def_ 7 (d := d7) rfl
  D8 := c.def_ 8 (d := d8) rfl
  D9 := c.def_ 9 (d := d9) rfl
  D10 := c.def_ 10 (d := d10) rfl
  D11 := c.def_ 11 (d := d11) rfl
  D12 := c.def_ 12 (d := d12) rfl
  D13 := c.def_ 13 (d := d13) rfl
  D14 := c.def_ 14 (d := d14) rfl
  D15 := c.def_ 15 (d := d15) rfl
  D16 := c.def_ 16 (d := d16) rfl
  D17 := c.def_ 17 (d := d17) rfl
  D18 := c.def_ 18 (d := d18) rfl
  D19 := c.def_ 19 (d := d19) rfl
  D20 := c.def_ 20 (d := d20) rfl
  D21 := c.def_ 21 (d := d21) rfl
  D22 := c.def_ 22 (d := d22) rfl
  D23 := c.def_ 23 (d := d23) rfl
  D24 := c.def_ 24 (d := d24) rfl
  D25 := c.def_ 25 (d := d25) rfl
  D26 := c.def_ 26 (d := d26) rfl
  D27 := c.def_ 27 (d := d27) rfl
  D28 := c.def_ 28 (d := d28) rfl
  D29 := c.def_ 29 (d := d29) rfl
  D30 := c.def_ 30 (d := d30) rfl
  D31 := c.def_ 31 (d := d31) rfl
  D32 := c.def_ 32 (d := d32) rfl
  D33 := c.def_ 33 (d := d33) rfl
  D34 := c.def_ 34 (d := d34) rfl
  D35 := c.def_ 35 (d := d35) rfl
end LW
open PySem PySem.W PySem.Calls PyProof.Rows
theorem PySem.Challenge.cw_twinshelves_k20_whole_no_other_text_is_r_holds : PySem.Challenge.rw_twinshelves_k20_whole_no_other_text_is_r.Holds := by
  w_on; o_law
  refine HandSHeadRun.head_any (r := OpenLaw.row PySem.Challenge.rw_twinshelves_k20_whole_no_other_text_is_r) (q := view (OpenLaw.row PySem.Challenge.rw_twinshelves_k20_whole_no_other_text_is_r).prog [42]) (H := LW.hk) (ob := LW.ob) (M := 20000) (loose := LW.loose) (d := HandSHeadRun.topDef (OpenLaw.row PySem.Challenge.rw_twinshelves_k20_whole_no_other_text_is_r).prog 42) (kwd := []) LW.ob_eq
    (by kernel_rfl) (fun s => by kernel_rfl) LW.run (by kernel_rfl) (by kernel_rfl) (by kernel_rfl) (by rfl) (by first | assumption | decide +kernel) (by decide +kernel) ⟨rfl, rfl, rfl, rfl, rfl, by decide +kernel⟩ ?hw ?hc
  case hw => w_witness2
  case hc =>
    refine MM.walk_ofW (l := PySem.Challenge.rw_twinshelves_k20_whole_no_other_text_is_r) (n := 63) (k := 34) (x := "_law_script") rfl (by decide) (by kernel_rfl) ⟨rfl, by decide, by decide⟩ ?F
    case F =>
      intro w mg fa h Y G hmg0
      obtain ⟨K, KX, c, cx⟩ := Y
      have hmg : mg ("law" : PySem.Str) = some (.ref fa) := by
        have e : (HandSHeadRun.topDef (OpenLaw.row PySem.Challenge.rw_twinshelves_k20_whole_no_other_text_is_r).prog 42).name = ("law" : PySem.Str) := by kernel_rfl
        rw [← e]
        exact hmg0
      have E := LW.env KX G c cx
      have e2 := hmg.symm.trans E.g_law
      cases e2
      obtain ⟨fd, D⟩ := E.D35
      have b := L2.FunD.bindsA (ps := ["_law_script"]) D fun _ _ _ _ _ _ us hl => match us, hl with | [_], _ => rfl
      refine ⟨K, fd, MM.spM (LW.Gb K) 1 MM.m_law_k20, KX, fun s v => b s [v] rfl, fun H a ns hl _ hS => ?_, fun base _ _ => LW.ok_law E D⟩
      obtain ⟨h', e⟩ := MM.law_ok ns hl
      exact MM.law_start hS e
