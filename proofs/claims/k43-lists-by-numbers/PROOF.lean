import PyProof.Rows.All
import Wide.All
import OpenK.AllK
import Wide.FinOn
import HandS.ForMost
import HandS.ForExc
import HandS.IsInst
import HandS.Deep
import HandS.Wide
import HandS.Rev
import HandS.Lambda
import HandS.Defaults
import HandS.Text
import HandS.Replace
import KE.KIntText
import HandS.Style
import HandS.Small
import HandS.WordsDict
import HandS.More
import HandS.TupAny
import PyProof.NeKinds
import HandS.ExcOwn
import HandS.ExcIs
import HandS.TryOnly
import HandS.ReplaceLit
import PyProof.StrLawsReplace
import HandS.SortInts
import PyProof.Rows.SortShellAny
import HandS.CallSlots
import HandS.Dict
import KE.KDictPairs
import KE.KSortTupG
import HandS.ExcInit
import HandS.Zip
import HandS.Conv
import HandS.RevRange
import PyProof.ListRange
import PyProof.CollectIter
import PyProof.FactsAll.range_iterator_1
import HandS.Sort
import PyProof.SumAny
import KE.KDictList
import HandS.SetFor
import HandS.HotCalls
import HandS.MakeKw
import PyProof.Rows.StrInSeq3
import PyProof.Rows.StrFit
import HandS.DictTup
import HandS.Flow
import HandS.FStrTup
import HandS.RaiseMore
import HandS.TupMul
import HandS.StrMore
import HandS.Set
import HandS.Strs
import HandS.SortKw
import KE.SortKeyHeap
import HandS.EndTab
import KE.KDictWalk
import HandS.Iter
import PySem.Challenge.RW_oncedoor_k43_lists_by_numbers
set_option Elab.async false
set_option linter.all false
set_option maxRecDepth 100000
set_option maxHeartbeats 4000000
namespace Px
open PySem PySem.Spec PyProof.Rows L2

inductive D where
  | non
  | bl (b : Bool)
  | int (i : Int)
  | str (x : Str)
  | tup (ds : List D)
  | lst (ds : List D)
  | own (k : Nat)
  | adr (a : Addr)

inductive Cell where
  | lst (ds : List D)
  | dK (kvs : List (Key × D))
  | dT (kvs : List (List Key × D))
  | fzK (o : Obj) (vs : List (Key × V)) (kvs : List (Key × D))
  | fzT (o : Obj) (vs : List (List Key × V)) (kvs : List (List Key × D))
  | ins (j : Nat) (ds : List D)
  | exn (j : Nat) (ds : List D)
  | deck
  | pen
  | tab (q : Str)
  | dead

structure AL where
  hid : List Addr
  l : List (Option (Addr × Option Addr))
abbrev Gam := List (Option D)
abbrev Om := List Cell
def fpo : Option (Addr × Option Addr) → List Addr
  | none => []
  | some (a, none) => [a]
  | some (a, some b) => [a, b]
def fpl (l : List (Option (Addr × Option Addr))) : List Addr := l.flatMap fpo
def fp (al : AL) : List Addr := al.hid ++ fpl al.l

def KT (K : PySem.W.Frag) (a : Addr) (xs : List V) : Prop := SqT K (fun _ => none) a xs
def KL (K : PySem.W.Frag) (a : Addr) (xs : List V) : Prop := SqL K (fun _ => none) a xs
theorem KT.sq {K : PySem.W.Frag} {a : Addr} {xs : List V} (h : KT K a xs) (H : Hp) : SqT K H a xs := by
  rcases h with (h | ⟨o, h⟩) | h
  · cases h
  · cases h
  · exact .inr h
theorem KL.sq {K : PySem.W.Frag} {a : Addr} {xs : List V} (h : KL K a xs) (H : Hp) : SqL K H a xs := by
  rcases h with (h | ⟨o, h⟩) | h
  · cases h
  · cases h
  · exact .inr h
def SOk (x : Str) : Prop := x.length ≤ sizeLine ∧ PyData.strOk x = true
theorem SOk.app {x y : Str} (h : SOk x) (h' : SOk y) (hl : x.length + y.length ≤ sizeLine) : SOk (x ++ y) := by
  refine ⟨by rw [Str.length_append]; exact hl, ?_⟩
  have h1 := h.2
  have h2 := h'.2
  unfold PyData.strOk at *
  rw [Str.cps_append, Array.all_append, h1, h2]
  rfl

mutual
inductive Rp (K : PySem.W.Frag) (al : AL) (H : Hp) : V → D → Prop
  | non : Rp K al H .non .non
  | bl (b : Bool) : Rp K al H (.bl b) (.bl b)
  | int (i : Int) : Rp K al H (.int i) (.int i)
  | str (x : Str) : SOk x → Rp K al H (.str x) (.str x)
  | tup {a : Addr} {xs : List V} {ds : List D} : (a ∉ fp al ∧ H a = some (.tup xs)) → xs.length ≤ sizeLine → RpA K al H xs ds → Rp K al H (.ref a) (.tup ds)
  | lst {a : Addr} {xs : List V} {ds : List D} : (a ∉ fp al ∧ Rd H a (.lst xs)) ∨ KL K a xs → xs.length ≤ sizeLine → RpA K al H xs ds → Rp K al H (.ref a) (.lst ds)
  | adr (a : Addr) : Rp K al H (.ref a) (.adr a)
  | own {k : Nat} {v : V} {o : Option (Addr × Option Addr)} : al.l[k]? = some o → (∀ p, o = some p → v = .ref p.1) → Rp K al H v (.own k)
inductive RpA (K : PySem.W.Frag) (al : AL) (H : Hp) : List V → List D → Prop
  | nil : RpA K al H [] []
  | cons {v : V} {vs : List V} {d : D} {ds : List D} : Rp K al H v d → RpA K al H vs ds → RpA K al H (v :: vs) (d :: ds)
end

structure Stp0 (al : AL) (H : Hp) (al' : AL) (H' : Hp) : Prop where
  old : ∀ (k : Nat) o, al.l[k]? = some o → al'.l[k]? = some o ∨ al'.l[k]? = some none
  new : ∀ a, a ∈ fp al' → a ∈ fp al ∨ H a = none
  keep : ∀ a o, a ∉ fp al → H a = some o → H' a = some o
  there : ∀ a, H a ≠ none → H' a ≠ none
structure Stp (al : AL) (H : Hp) (al' : AL) (H' : Hp) : Prop extends Stp0 al H al' H' where
  hid : al'.hid = al.hid
  same : ∀ a, a ∈ al.hid → H' a = H a
theorem Stp.mk' {al : AL} {H : Hp} {al' : AL} {H' : Hp} (o : ∀ (k : Nat) o, al.l[k]? = some o → al'.l[k]? = some o ∨ al'.l[k]? = some none) (n : ∀ a, a ∈ fp al' → a ∈ fp al ∨ H a = none) (k : ∀ a o, a ∉ fp al → H a = some o → H' a = some o) (t : ∀ a, H a ≠ none → H' a ≠ none)
    (h : al'.hid = al.hid) (s : ∀ a, a ∈ al.hid → H' a = H a) : Stp al H al' H' := ⟨⟨o, n, k, t⟩, h, s⟩
theorem Stp0.refl (al : AL) (H : Hp) : Stp0 al H al H := ⟨fun _ _ h => .inl h, fun _ h => .inl h, fun _ _ _ h => h, fun _ h => h⟩
theorem Stp.refl (al : AL) (H : Hp) : Stp al H al H := ⟨.refl _ _, rfl, fun _ _ => rfl⟩
theorem Stp0.trans {a1 a2 a3 : AL} {H1 H2 H3 : Hp} (s : Stp0 a1 H1 a2 H2) (t : Stp0 a2 H2 a3 H3) : Stp0 a1 H1 a3 H3 := by
  refine ⟨fun k o h => ?_, fun a h => ?_, fun a o hn h => ?_, fun a h => t.there a (s.there a h)⟩
  · rcases s.old k o h with h | h
    · exact t.old k o h
    · rcases t.old k none h with h | h
      · exact .inr h
      · exact .inr h
  · rcases t.new a h with h | h
    · exact s.new a h
    · refine .inr ?_
      cases q : H1 a with
      | none => rfl
      | some o => exact absurd h (s.there a (by rw [q]; simp))
  · have h2 := s.keep a o hn h
    refine t.keep a o (fun hm => ?_) h2
    rcases s.new a hm with z | z
    · exact hn z
    · rw [h] at z; cases z
theorem Stp.trans {a1 a2 a3 : AL} {H1 H2 H3 : Hp} (s : Stp a1 H1 a2 H2) (t : Stp a2 H2 a3 H3) : Stp a1 H1 a3 H3 :=
  ⟨s.toStp0.trans t.toStp0, t.hid.trans s.hid, fun a h => (t.same a (by rw [s.hid]; exact h)).trans (s.same a h)⟩
theorem Rd.some {H : Hp} {a : Addr} {u : HO} (r : Rd H a u) : ∃ o, H a = some o := by
  rcases r with r | ⟨o, r⟩
  · exact ⟨_, r⟩
  · exact ⟨_, r⟩
theorem Stp0.rd {al al' : AL} {H H' : Hp} (s : Stp0 al H al' H') {a : Addr} {u : HO} (hn : a ∉ fp al) (r : Rd H a u) : a ∉ fp al' ∧ Rd H' a u := by
  refine ⟨fun hm => ?_, ?_⟩
  · rcases s.new a hm with z | z
    · exact hn z
    · obtain ⟨o, e⟩ := Rd.some r
      rw [e] at z; cases z
  · rcases r with r | ⟨o, r⟩
    · exact .inl (s.keep _ _ hn r)
    · exact .inr ⟨o, s.keep _ _ hn r⟩
theorem Stp0.rdX {al al' : AL} {H H' : Hp} (s : Stp0 al H al' H') {a : Addr} {u : HO} (hn : a ∉ fp al) (r : H a = some u) : a ∉ fp al' ∧ H' a = some u := by
  refine ⟨fun hm => ?_, s.keep _ _ hn r⟩
  rcases s.new a hm with z | z
  · exact hn z
  · rw [r] at z; cases z
section
variable {K : PySem.W.Frag} {al al' : AL} {H H' : Hp}
mutual
theorem Rp.mono0 (s : Stp0 al H al' H') : ∀ {v : V} {d : D}, Rp K al H v d → Rp K al' H' v d
  | _, _, .non => .non
  | _, _, .bl b => .bl b
  | _, _, .int i => .int i
  | _, _, .adr a => .adr a
  | _, _, .str x h => .str x h
  | _, _, .tup h hl hr => .tup (s.rdX h.1 h.2) hl (RpA.mono0 s hr)
  | _, _, .lst h hl hr => .lst (h.elim (fun z => .inl (s.rd z.1 z.2)) .inr) hl (RpA.mono0 s hr)
  | _, _, .own h hv => by
    rcases s.old _ _ h with z | z
    · exact .own z hv
    · exact .own z (fun p e => nomatch e)
theorem RpA.mono0 (s : Stp0 al H al' H') : ∀ {vs : List V} {ds : List D}, RpA K al H vs ds → RpA K al' H' vs ds
  | _, _, .nil => .nil
  | _, _, .cons h t => .cons (Rp.mono0 s h) (RpA.mono0 s t)
end
theorem Rp.mono (s : Stp al H al' H') {v : V} {d : D} (h : Rp K al H v d) : Rp K al' H' v d := h.mono0 s.toStp0
theorem RpA.mono (s : Stp al H al' H') {vs : List V} {ds : List D} (h : RpA K al H vs ds) : RpA K al' H' vs ds := h.mono0 s.toStp0
theorem RpA.length {vs : List V} {ds : List D} (r : RpA K al H vs ds) : vs.length = ds.length := by
  induction vs generalizing ds with
  | nil => cases r; rfl
  | cons v vs ih => cases r with | cons h t => rw [List.length_cons, List.length_cons, ih t]
theorem RpA.get {vs : List V} {ds : List D} {i : Nat} {d : D} (r : RpA K al H vs ds) (h : ds[i]? = some d) : ∃ v, vs[i]? = some v ∧ Rp K al H v d := by
  induction vs generalizing ds i with
  | nil => cases r; simp at h
  | cons v vs ih =>
    cases r with
    | cons h1 t =>
      cases i with
      | zero => simp at h; subst h; exact ⟨v, rfl, h1⟩
      | succ i => simp at h; obtain ⟨u, e, q⟩ := ih t h; exact ⟨u, by simpa using e, q⟩
theorem RpA.getV {vs : List V} {ds : List D} {i : Nat} {v : V} (r : RpA K al H vs ds) (h : vs[i]? = some v) : ∃ d, ds[i]? = some d ∧ Rp K al H v d := by
  induction vs generalizing ds i with
  | nil => simp at h
  | cons w vs ih =>
    cases r with
    | cons h1 t =>
      cases i with
      | zero => simp at h; subst h; exact ⟨_, rfl, h1⟩
      | succ i => simp at h; obtain ⟨u, e, q⟩ := ih t h; exact ⟨u, by simpa using e, q⟩
theorem RpA.append {vs ws : List V} {ds es : List D} (r : RpA K al H vs ds) (q : RpA K al H ws es) : RpA K al H (vs ++ ws) (ds ++ es) := by
  induction vs generalizing ds with
  | nil => cases r; exact q
  | cons v vs ih => cases r with | cons h t => exact .cons h (ih t)
theorem RpA.take {vs : List V} {ds : List D} (r : RpA K al H vs ds) (n : Nat) : RpA K al H (vs.take n) (ds.take n) := by
  induction vs generalizing ds n with
  | nil => cases r; simp; exact .nil
  | cons v vs ih =>
    cases r with
    | cons h t =>
      cases n with
      | zero => exact .nil
      | succ n => exact .cons h (ih t n)
theorem RpA.drop {vs : List V} {ds : List D} (r : RpA K al H vs ds) (n : Nat) : RpA K al H (vs.drop n) (ds.drop n) := by
  induction vs generalizing ds n with
  | nil => cases r; simp; exact .nil
  | cons v vs ih =>
    cases r with
    | cons h t =>
      cases n with
      | zero => exact .cons h t
      | succ n => exact ih t n
end

def RpK (K : PySem.W.Frag) (al : AL) (H : Hp) {κ : Type} (vs : List (κ × V)) (ds : List (κ × D)) : Prop := vs.map (·.1) = ds.map (·.1) ∧ RpA K al H (vs.map (·.2)) (ds.map (·.2))
/-- the program's own classes, by number -/
def clsN (i : Nat) : Str := match i with
  | 0 => "DoorError" | 1 => "NoDeed" | 2 => "NoKey" | 3 => "NoName" | 4 => "Other" | 5 => "NoRow" | 6 => "NoAsk" | 7 => "Late" | 8 => "Down" | 9 => "Up"
  | 10 => "Unsafe" | 11 => "NoNumber" | 12 => "NoWay" | 13 => "NoLine" | 14 => "NoChange" | 15 => "NoJournal" | 16 => "Busy" | 17 => "NoHouse" | 18 => "NoRows"
  | 20 => "Book" | 21 => "House" | 22 => "Journal" | 23 => "Keys" | 24 => "Reading" | 25 => "Run" | 26 => "Door" | _ => "Desk"
/-- the field of an error -/
def fldN (i : Nat) : Str := match i with
  | 15 => "line" | 16 => "number" | 17 => "house" | 18 => "row" | _ => "name"
/-- the fields of an instance, in the order in which __init__ sets them -/
def fldsN (i : Nat) : List Str := match i with
  | 20 => ["amounts"]
  | 21 => ["amounts", "closed", "answered"]
  | 22 => ["entries", "firm"]
  | 23 => ["life", "stands"]
  | 24 => ["first_row", "has_read", "has_come", "last_name", "last_kept", "kept_numbers", "came_deeds", "last_came", "asked_numbers", "done_numbers", "last_turn"]
  | 25 => ["number", "asker", "key", "deed", "stage", "asks", "heard", "undone"]
  | 26 => ["label", "life", "houses", "journal", "is_up", "accounts", "answers", "runs", "ahead", "turn"]
  | _ => ["door"]
/-- where the class stands -/
def clA (K : PySem.W.Frag) (j : Nat) : Addr := match PySem.W.nsIn K mainGlobals (clsN j) with
  | some (some (.ref a)) => a
  | _ => 0
theorem clA_of {K : PySem.W.Frag} {j : Nat} {a : Addr} (h : PySem.W.nsIn K mainGlobals (clsN j) = some (some (.ref a))) : clA K j = a := by unfold clA; rw [h]
/-- values by names, in the names' order -/
def RpN (K : PySem.W.Frag) (al : AL) (H : Hp) (ns : List Str) (vs : List (Str × V)) (ds : List D) : Prop := vs.map (·.1) = ns ∧ RpA K al H (vs.map (·.2)) ds
/-- the table of code objects of the def with the name q -/
def tabA (K : PySem.W.Frag) (q : Str) : Addr := match K.find? (fun p => match p.2.data with | .func fd => fd.qualname == q | _ => false) with
  | some (_, ⟨_, _, .func fd, _⟩) => (match fd.code with
    | .ref c => (match K.lookup c with
      | some ⟨_, _, .fields vs, _⟩ => (match (vs[11]? : Option Value) with | some (.ref P) => P | _ => 0)
      | _ => 0)
    | _ => 0)
  | _ => 0
def lamQ (q : Str) : Str := q ++ ".<locals>." ++ "<lambda>"
/-- a caught exception at a: its class, its dict -/
def exnO (a C : Addr) (d : Option Addr) : HO := .ext fun h => ∃ (vs : Array Value) (sl : Array (Option Value)), h.get? a = some { cls := .ref C, dict := d, data := .fields vs, slots := sl }
/-- the fields of an exception, in its dict -/
def XFs (K : PySem.W.Frag) (al : AL) (H : Hp) (d : Option Addr) (i : Nat) (ds : List D) : Prop :=
  (ds = [] ∧ d = none) ∨ ∃ dd vs, d = some dd ∧ dd ∉ fp al ∧ H dd = some (.xd vs) ∧ RpN K al H [fldN i] vs ds
/-- the table of code objects at a -/
def TabX (al : AL) (H : Hp) (a : Addr) (q : Str) : Prop := ∃ ps : Array Value, H a = some (.tbl ps) ∧ TriplesOk ps.toList ∧ ∀ (pos : Pos) (cv : Value), codeAmong pos ps.toList = some cv → ∃ c, cv = .ref c ∧ c ∉ fp al ∧ H c = some (LamX.CodeO c q)
def CellOk (K : PySem.W.Frag) (al : AL) (H : Hp) : Cell → Option (Addr × Option Addr) → Prop
  | .dead, _ => True
  | .lst ds, some (a, none) => ∃ xs, H a = some (.lst xs) ∧ xs.length ≤ sizeLine ∧ RpA K al H xs ds
  | .dK kvs, some (a, none) => ∃ vs, H a = some (.dK vs) ∧ RpK K al H vs kvs
  | .dT kvs, some (a, none) => ∃ vs, H a = some (.dT vs) ∧ RpK K al H vs kvs
  | .fzK o vs kvs, some (a, none) => H a = some (.frz o (.dK vs)) ∧ RpK K al H vs kvs
  | .fzT o vs kvs, some (a, none) => H a = some (.frz o (.dT vs)) ∧ RpK K al H vs kvs
  | .tab q, some (a, none) => a = tabA K q ∧ TabX al H a (lamQ q)
  | .pen, some (a, none) => ∃ p q : Int, H a = some (.lst [.int p, .int q]) ∧ 0 ≤ p ∧ 0 ≤ q ∧ q < 2147483629
  | .ins j ds, some (a, some dx) => ∃ vs, H a = some (.ins (clA K j) dx vs) ∧ H dx = some (.own a) ∧ RpN K al H ((fldsN j).take ds.length) vs ds
  | .exn j ds, some (a, none) => ∃ d, H a = some (exnO a (clA K j) d) ∧ XFs K al H d j ds
  | .deck, some (a, some b) => ∃ (ns : List Int) (t n : Int), H a = some (.lst [.ref b, .int t, .int n]) ∧ H b = some (.lst (ns.map .int)) ∧ ns.length ≤ 64
  | _, _ => False
structure Rel (K : PySem.W.Frag) (al : AL) (H : Hp) (O : Om) : Prop where
  len : al.l.length = O.length
  nd : (fp al).Nodup
  live : ∀ a, a ∈ fp al → H a ≠ none
  nt : ∀ a, a ∈ fp al → ∀ xs : List V, H a ≠ some (.tup xs)
  ok : ∀ (k : Nat) c, O[k]? = some c → ∃ o, al.l[k]? = some o ∧ CellOk K al H c o
structure EnvR (K : PySem.W.Frag) (al : AL) (H : Hp) (σ : L2.St) (G : Gam) : Prop where
  len : σ.length = G.length
  get : ∀ (i : Nat) d, G[i]? = some (some d) → ∃ v, σ[i]? = some (some v) ∧ Rp K al H v d
theorem EnvR.mono0 {K : PySem.W.Frag} {al al' : AL} {H H' : Hp} {σ : L2.St} {G : Gam} (e : EnvR K al H σ G) (s : Stp0 al H al' H') : EnvR K al' H' σ G :=
  ⟨e.len, fun i d h => let ⟨v, h1, h2⟩ := e.get i d h; ⟨v, h1, h2.mono0 s⟩⟩
theorem EnvR.mono {K : PySem.W.Frag} {al al' : AL} {H H' : Hp} {σ : L2.St} {G : Gam} (e : EnvR K al H σ G) (s : Stp al H al' H') : EnvR K al' H' σ G := e.mono0 s.toStp0
theorem RpK.mono0 {K : PySem.W.Frag} {al al' : AL} {H H' : Hp} {κ : Type} {vs : List (κ × V)} {ds : List (κ × D)} (r : RpK K al H vs ds) (s : Stp0 al H al' H') : RpK K al' H' vs ds := ⟨r.1, r.2.mono0 s⟩
theorem fp_mem {al : AL} {k : Nat} {o : Option (Addr × Option Addr)} {a : Addr} (h : al.l[k]? = some o) (ha : a ∈ fpo o) : a ∈ fp al :=
  List.mem_append_right _ (List.mem_flatMap.mpr ⟨o, List.mem_of_getElem? h, ha⟩)

structure XD where
  cls : Nat
  ds : List D
def ExR (K : PySem.W.Frag) (al : AL) (H : Hp) (x : XD) (cls : Value) (d : Option Addr) : Prop :=
  cls = .ref (clA K x.cls) ∧ XFs K al H d x.cls x.ds

abbrev QX := D → Om → Prop
abbrev EX := XD → Om → Prop
abbrev TX := Gam → Om → QX → EX → Prop
abbrev TTX := Gam → Om → (Bool → Om → Prop) → EX → Prop
abbrev TAX := Gam → Om → (List D → Om → Prop) → EX → Prop
structure Ed where
  nx : Gam → Om → Prop
  rt : D → Om → Prop
  bk : Gam → Om → Prop := fun _ _ => False
  ct : Gam → Om → Prop := fun _ _ => False
  ex : XD → Gam → Om → Prop := fun _ _ _ => False
abbrev TSX := Ed → Gam → Om → Prop
abbrev TGX := D → Gam → Om → (Gam → Om → Prop) → EX → Prop

section
variable (K : PySem.W.Frag) (W : WX)
def RdE (te : TE) (t : TX) : Prop := ∀ (al : AL) (H : Hp) (σ : L2.St) (G : Gam) (O : Om) (Q : QX) (E : EX) (R : VK), Rel K al H O → EnvR K al H σ G → t G O Q E →
  (∀ al' H' O' v d, Stp al H al' H' → Rel K al' H' O' → Rp K al' H' v d → Q d O' → R v H') →
  (∀ al' H' O' x cls dd, Stp al H al' H' → Rel K al' H' O' → ExR K al' H' x cls dd → E x O' → W cls dd σ H') → te σ H R
def RdT (te : TT) (t : TTX) : Prop := ∀ (al : AL) (H : Hp) (σ : L2.St) (G : Gam) (O : Om) (Q : Bool → Om → Prop) (E : EX) (R : Bool → Hp → Prop), Rel K al H O → EnvR K al H σ G → t G O Q E →
  (∀ al' H' O' b, Stp al H al' H' → Rel K al' H' O' → Q b O' → R b H') →
  (∀ al' H' O' x cls dd, Stp al H al' H' → Rel K al' H' O' → ExR K al' H' x cls dd → E x O' → W cls dd σ H') → te σ H R
def RdA (n : Nat) (te : TA) (t : TAX) : Prop := ∀ (al : AL) (H : Hp) (σ : L2.St) (G : Gam) (O : Om) (Q : List D → Om → Prop) (E : EX) (R : List V → Hp → Prop), Rel K al H O → EnvR K al H σ G → t G O Q E →
  (∀ al' H' O' vs ds, Stp al H al' H' → Rel K al' H' O' → RpA K al' H' vs ds → ds.length = n → Q ds O' → R vs H') →
  (∀ al' H' O' x cls dd, Stp al H al' H' → Rel K al' H' O' → ExR K al' H' x cls dd → E x O' → W cls dd σ H') → te σ H R
structure EdR (al : AL) (H : Hp) (D : Ed) (R : Ends) : Prop where
  nx : ∀ al' H' O' σ' G', Stp al H al' H' → Rel K al' H' O' → EnvR K al' H' σ' G' → D.nx G' O' → R.nx σ' H'
  rt : ∀ al' H' O' v d, Stp al H al' H' → Rel K al' H' O' → Rp K al' H' v d → D.rt d O' → R.rt v H'
  bk : ∀ al' H' O' σ' G', Stp al H al' H' → Rel K al' H' O' → EnvR K al' H' σ' G' → D.bk G' O' → R.bk σ' H'
  ct : ∀ al' H' O' σ' G', Stp al H al' H' → Rel K al' H' O' → EnvR K al' H' σ' G' → D.ct G' O' → R.ct σ' H'
  ex : ∀ al' H' O' σ' G' x cls dd, Stp al H al' H' → Rel K al' H' O' → EnvR K al' H' σ' G' → ExR K al' H' x cls dd → D.ex x G' O' → W cls dd σ' H'
def RdS (ts : TS) (t : TSX) : Prop := ∀ (al : AL) (H : Hp) (σ : L2.St) (G : Gam) (O : Om) (D : Ed) (R : Ends), Rel K al H O → EnvR K al H σ G → t D G O → EdR K W al H D R → ts R σ H
def RdG (is : List Nat) (tg : TG) (t : TGX) : Prop := ∀ (al : AL) (H : Hp) (σ : L2.St) (G : Gam) (O : Om) (v : V) (d : D) (Q : Gam → Om → Prop) (E : EX) (R : L2.St → Hp → Prop), Rel K al H O → EnvR K al H σ G → Rp K al H v d → t d G O Q E →
  (∀ al' H' O' σ' G', Stp al H al' H' → Rel K al' H' O' → EnvR K al' H' σ' G' → (∀ vs : List Nat, (∀ i ∈ is, i ∈ vs) → wipe σ' vs = wipe σ vs) → Q G' O' → R σ' H') →
  (∀ al' H' O' x cls dd, Stp al H al' H' → Rel K al' H' O' → ExR K al' H' x cls dd → E x O' → W cls dd σ H') → tg v σ H R
end
theorem EdR.mono {K : PySem.W.Frag} {W : WX} {al al1 : AL} {H H1 : Hp} {D : Ed} {R : Ends} (e : EdR K W al H D R) (s : Stp al H al1 H1) : EdR K W al1 H1 D R :=
  ⟨fun _ _ _ _ _ t => e.nx _ _ _ _ _ (s.trans t), fun _ _ _ _ _ t => e.rt _ _ _ _ _ (s.trans t), fun _ _ _ _ _ t => e.bk _ _ _ _ _ (s.trans t), fun _ _ _ _ _ t => e.ct _ _ _ _ _ (s.trans t), fun _ _ _ _ _ _ _ _ t => e.ex _ _ _ _ _ _ _ _ (s.trans t)⟩
def PX (X : Cx) (W : WX) (e : Expr) (t : TX) : Prop := ∃ te, PE X e te ∧ RdE X.K W te t
def PTX (X : Cx) (W : WX) (e : Expr) (t : TTX) : Prop := ∃ te, PT X e te ∧ RdT X.K W te t
def PWX (X : Cx) (W : WX) (e : Expr) (t : TTX) : Prop := ∃ te, PW X e te ∧ RdT X.K W te t
def PAX (X : Cx) (W : WX) (es : List Expr) (t : TAX) : Prop := ∃ te, PA X es te ∧ RdA X.K W es.length te t
def PSX (X : Cx) (W : WX) (st : Stmt) (t : TSX) : Prop := ∃ ts, PS X st ts ∧ RdS X.K W ts t
def PSsX (X : Cx) (W : WX) (st : List Stmt) (t : TSX) : Prop := ∃ ts, PSs X st ts ∧ RdS X.K W ts t
def PGX (X : Cx) (W : WX) (tg : Expr) (is : List Nat) (t : TGX) : Prop := ∃ g, PG X tg g ∧ RdG X.K W is g t

def optK {α : Type} (o : Option α) (Q : α → Prop) : Prop := match o with
  | some a => Q a
  | none => False
theorem optK.ex {α : Type} {o : Option α} {Q : α → Prop} (h : optK o Q) : ∃ a, o = some a ∧ Q a := by
  cases o with
  | some a => exact ⟨a, rfl, h⟩
  | none => exact (show False from h).elim
theorem optK.mk {α : Type} {o : Option α} {Q : α → Prop} {a : α} (e : o = some a) (h : Q a) : optK o Q := by subst e; exact h
def xite (b : Bool) (p q : Prop) : Prop := match b with
  | true => p
  | false => q
def gv : Gam → Nat → (D → Prop) → Prop
  | [], _, _ => False
  | x :: _, 0, k => optK x k
  | _ :: G, i + 1, k => gv G i k
theorem gv.ex : ∀ {G : Gam} {i : Nat} {k : D → Prop}, gv G i k → ∃ d, G[i]? = some (some d) ∧ k d
  | [], _, _, h => (show False from h).elim
  | x :: _, 0, k, h => by
    have h' : optK x k := h
    obtain ⟨d, e, q⟩ := h'.ex
    exact ⟨d, by rw [e]; rfl, q⟩
  | _ :: G, i + 1, k, h => by
    obtain ⟨d, e, q⟩ := gv.ex (G := G) (i := i) (k := k) h
    exact ⟨d, by simpa using e, q⟩
def gsetK : Gam → Nat → Option D → (Gam → Prop) → Prop
  | [], _, _, k => k []
  | _ :: G, 0, d, k => k (d :: G)
  | x :: G, i + 1, d, k => gsetK G i d fun G' => k (x :: G')
theorem gsetK_eq : ∀ (G : Gam) (i : Nat) (d : Option D) (k : Gam → Prop), gsetK G i d k = k (G.set i d)
  | [], _, _, _ => rfl
  | _ :: _, 0, _, _ => rfl
  | x :: G, i + 1, d, k => gsetK_eq G i d _
def xVar (i : Nat) : TX := fun G O Q _ => gv G i fun d => Q d O
def xC (d : D) : TX := fun _ O Q _ => Q d O
section
variable {X : Cx} {W : WX}
theorem rd_var {K : PySem.W.Frag} (i : Nat) : RdE K W (tVar i) (xVar i) := by
  intro al H σ G O Q E R rel env h hq _
  obtain ⟨d, e, q⟩ := gv.ex h
  obtain ⟨v, e1, r⟩ := env.get i d e
  exact ⟨v, e1, hq _ _ _ _ _ (Stp.refl _ _) rel r q⟩
theorem xv (i : Nat) {x : Str} {pos : Pos} (hN : X.N[i]? = some x := by rfl) (hv : Vis X.env.scope x := by first | exact Or.inl rfl | exact Or.inr (Or.inl rfl) | exact Or.inr (Or.inr rfl)) (hd : (x == ("__debug__" : Str)) = false := by decide)
    (hcd : (x == ("__classdict__" : Str)) = false := by decide) : PX X W (.Name x pos) (xVar i) := ⟨_, pe_var hN hv hd hcd, rd_var i⟩
theorem rd_c {K : PySem.W.Frag} {v : V} {d : D} (h : ∀ al H, Rp K al H v d) : RdE K W (tC v) (xC d) := by
  intro al H σ G O Q E R rel env q hq _
  exact hq _ _ _ _ _ (Stp.refl _ _) rel (h _ _) q
theorem px_int {i j pos} : PX X W (.Constant (.int i) j pos) (xC (.int i)) := ⟨_, pe_int, rd_c fun _ _ => .int i⟩
theorem px_bl {b j pos} : PX X W (.Constant (.bool b) j pos) (xC (.bl b)) := ⟨_, pe_bl, rd_c fun _ _ => .bl b⟩
theorem px_non {j pos} : PX X W (.Constant .none j pos) (xC .non) := ⟨_, pe_non, rd_c fun _ _ => .non⟩
theorem px_str {x j pos} (h : (decide (x.length ≤ sizeLine) && PyData.strOk x) = true := by decide +kernel) : PX X W (.Constant (.str x) j pos) (xC (.str x)) := ⟨_, pe_str, rd_c fun _ _ => .str x ⟨of_decide_eq_true (Bool.and_eq_true_iff.mp h).1, (Bool.and_eq_true_iff.mp h).2⟩⟩
theorem px_glob {x : Str} {v : V} {d : D} {u : Value} {pos : Pos} (hg : Gl X x) (hm : X.mg x = some u) (r : RelV v u) (h : ∀ al H, Rp X.K al H v d) (hd : (x == ("__debug__" : Str)) = false := by decide) : PX X W (.Name x pos) (xC d) :=
  ⟨_, pe_glob hg hm r hd, rd_c h⟩
end
end Px

namespace Px
open PySem PySem.Spec PyProof.Rows L2

def RdO2 (K : PySem.W.Frag) (r : R2) (t : D → D → Om → QX → Prop) : Prop := ∀ (al : AL) (H : Hp) (O : Om) (x y : V) (d e : D) (Q : QX) (R : VK), Rel K al H O → Rp K al H x d → Rp K al H y e → t d e O Q →
  (∀ al' H' O' v d', Stp al H al' H' → Rel K al' H' O' → Rp K al' H' v d' → Q d' O' → R v H') → r x y H R
def RdO1 (K : PySem.W.Frag) (r : V → Hp → VK → Prop) (t : D → Om → QX → Prop) : Prop := ∀ (al : AL) (H : Hp) (O : Om) (x : V) (d : D) (Q : QX) (R : VK), Rel K al H O → Rp K al H x d → t d O Q →
  (∀ al' H' O' v d', Stp al H al' H' → Rel K al' H' O' → Rp K al' H' v d' → Q d' O' → R v H') → r x H R
def RdC (K : PySem.W.Frag) (r : List V → Hp → VK → Prop) (t : List D → Om → QX → Prop) : Prop := ∀ (al : AL) (H : Hp) (O : Om) (xs : List V) (ds : List D) (Q : QX) (R : VK), Rel K al H O → RpA K al H xs ds → t ds O Q →
  (∀ al' H' O' v d', Stp al H al' H' → Rel K al' H' O' → Rp K al' H' v d' → Q d' O' → R v H') → r xs H R
def RdM (K : PySem.W.Frag) (r : V → List V → Hp → VK → Prop) (t : D → List D → Om → QX → Prop) : Prop := ∀ (al : AL) (H : Hp) (O : Om) (x : V) (d : D) (xs : List V) (ds : List D) (Q : QX) (R : VK), Rel K al H O → Rp K al H x d → RpA K al H xs ds → t d ds O Q →
  (∀ al' H' O' v d', Stp al H al' H' → Rel K al' H' O' → Rp K al' H' v d' → Q d' O' → R v H') → r x xs H R
def BO (X : Cx) (op : Operator) (t : D → D → Om → QX → Prop) : Prop := ∃ r, OpR X (binaryOp op) r ∧ RdO2 X.K r t
def UO (X : Cx) (op : UnaryOp) (t : D → Om → QX → Prop) : Prop := ∃ r, UnR X (unaryOp op) r ∧ RdO1 X.K r t
def CO (X : Cx) (op : CmpOp) (t : D → D → Om → QX → Prop) : Prop := ∃ r, OpR X (compareOp op) r ∧ RdO2 X.K r t
def FO (X : Cx) (f : Value) (t : List D → Om → QX → Prop) : Prop := ∃ r, CallR X f r ∧ RdC X.K r t
def xOp (t : D → D → Om → QX → Prop) (a b : TX) : TX := fun G O Q E => a G O (fun d O1 => b G O1 (fun e O2 => t d e O2 Q) E) E
def xUn (t : D → Om → QX → Prop) (a : TX) : TX := fun G O Q E => a G O (fun d O1 => t d O1 Q) E
def xNil : TAX := fun _ O Q _ => Q [] O
def xCons (a : TX) (r : TAX) : TAX := fun G O Q E => a G O (fun d O1 => r G O1 (fun ds O2 => Q (d :: ds) O2) E) E
def xCall (t : List D → Om → QX → Prop) (a : TAX) : TX := fun G O Q E => a G O (fun ds O1 => t ds O1 Q) E
theorem OpR.or {X : Cx} {f : Value → Value → Sem Value} {r r' : R2} (h : OpR X f r) (h' : OpR X f r') : OpR X f (fun x y H Q => r x y H Q ∨ r' x y H Q) := by
  intro pins s σ H x y v u Q I rx ry q
  rcases q with q | q
  · exact h pins s σ H x y v u Q I rx ry q
  · exact h' pins s σ H x y v u Q I rx ry q
section
variable {K : PySem.W.Frag} {W : WX}
theorem rd_op {r : R2} {t : D → D → Om → QX → Prop} {ta tb : TE} {xa xb : TX} (hr : RdO2 K r t) (ha : RdE K W ta xa) (hb : RdE K W tb xb) : RdE K W (tOp r ta tb) (xOp t xa xb) := by
  intro al H σ G O Q E R rel env h hq he
  refine ha al H σ G O _ E _ rel env h (fun al1 H1 O1 x d s1 rel1 r1 q1 => ?_) he
  refine hb al1 H1 σ G O1 _ E _ rel1 (env.mono s1) q1 (fun al2 H2 O2 y e s2 rel2 r2 q2 => ?_) (fun al' H' O' x cls dd s' => he _ _ _ _ _ _ (s1.trans s'))
  exact hr al2 H2 O2 x y d e Q R rel2 (r1.mono s2) r2 q2 fun al' H' O' v d' s' => hq _ _ _ _ _ ((s1.trans s2).trans s')
theorem rd_un {r : V → Hp → VK → Prop} {t : D → Om → QX → Prop} {ta : TE} {xa : TX} (hr : RdO1 K r t) (ha : RdE K W ta xa) : RdE K W (tUn r ta) (xUn t xa) := by
  intro al H σ G O Q E R rel env h hq he
  refine ha al H σ G O _ E _ rel env h (fun al1 H1 O1 x d s1 rel1 r1 q1 => ?_) he
  exact hr al1 H1 O1 x d Q R rel1 r1 q1 fun al' H' O' v d' s' => hq _ _ _ _ _ (s1.trans s')
theorem rd_nil : RdA K W 0 tNil xNil := fun al H σ G O Q E R rel env h hq he => hq _ _ _ _ _ (Stp.refl _ _) rel .nil rfl h
theorem rd_cons {n : Nat} {ta : TE} {tr : TA} {xa : TX} {xr : TAX} (ha : RdE K W ta xa) (hb : RdA K W n tr xr) : RdA K W (n + 1) (tCons ta tr) (xCons xa xr) := by
  intro al H σ G O Q E R rel env h hq he
  refine ha al H σ G O _ E _ rel env h (fun al1 H1 O1 x d s1 rel1 r1 q1 => ?_) he
  refine hb al1 H1 σ G O1 _ E _ rel1 (env.mono s1) q1 (fun al2 H2 O2 ys es s2 rel2 r2 hl q2 => ?_) (fun al' H' O' x cls dd s' => he _ _ _ _ _ _ (s1.trans s'))
  exact hq _ _ _ _ _ (s1.trans s2) rel2 (.cons (r1.mono s2) r2) (by rw [List.length_cons, hl]) q2
theorem rd_call {n : Nat} {r : List V → Hp → VK → Prop} {t : List D → Om → QX → Prop} {ta : TA} {xa : TAX} (hr : RdC K r t) (ha : RdA K W n ta xa) : RdE K W (tCB r ta) (xCall t xa) := by
  intro al H σ G O Q E R rel env h hq he
  refine ha al H σ G O _ E _ rel env h (fun al1 H1 O1 xs ds s1 rel1 r1 _ q1 => ?_) he
  exact hr al1 H1 O1 xs ds Q R rel1 r1 q1 fun al' H' O' v d' s' => hq _ _ _ _ _ (s1.trans s')
end
section
variable {X : Cx} {W : WX}
theorem px_op {op : Operator} {t : D → D → Om → QX → Prop} {a b : Expr} {xa xb : TX} {pos : Pos} (hr : BO X op t) (ha : PX X W a xa) (hb : PX X W b xb) : PX X W (.BinOp a op b pos) (xOp t xa xb) :=
  let ⟨_, r1, r2⟩ := hr; let ⟨_, p1, q1⟩ := ha; let ⟨_, p2, q2⟩ := hb; ⟨_, pe_op r1 p1 p2, rd_op r2 q1 q2⟩
theorem px_un {op : UnaryOp} {t : D → Om → QX → Prop} {a : Expr} {xa : TX} {pos : Pos} (hr : UO X op t) (ha : PX X W a xa) : PX X W (.UnaryOp op a pos) (xUn t xa) :=
  let ⟨_, r1, r2⟩ := hr; let ⟨_, p1, q1⟩ := ha; ⟨_, pe_un r1 p1, rd_un r2 q1⟩
theorem px_cmp {op : CmpOp} {t : D → D → Om → QX → Prop} {a b : Expr} {xa xb : TX} {pos : Pos} (hr : CO X op t) (ha : PX X W a xa) (hb : PX X W b xb) (hm : behindInMarks op b = false := by first | rfl | exact nomark _) : PX X W (.Compare a [op] [b] pos) (xOp t xa xb) :=
  let ⟨_, r1, r2⟩ := hr; let ⟨_, p1, q1⟩ := ha; let ⟨_, p2, q2⟩ := hb; ⟨_, pe_cmpR r1 p1 p2 hm, rd_op r2 q1 q2⟩
theorem pax_nil : PAX X W [] xNil := ⟨_, pa_nil, rd_nil⟩
theorem pax_cons {e : Expr} {es : List Expr} {xa : TX} {xr : TAX} (ha : PX X W e xa) (hr : PAX X W es xr) (hs : starEach (e :: es) X.env = (false, eval e X.env) :: starEach es X.env := by rfl) : PAX X W (e :: es) (xCons xa xr) :=
  let ⟨_, p1, q1⟩ := ha; let ⟨_, p2, q2⟩ := hr; ⟨_, pa_cons p1 p2 hs, rd_cons q1 q2⟩
theorem px_callB {id : String} {t : List D → Om → QX → Prop} {x : Str} {p pos : Pos} {e : Expr} {es : List Expr} {xa : TAX} (hc : FO X (.builtin id) t) (hg : Gl X x) (hm : X.mg x = none) (hv : bootBuiltins x = some (.builtin id)) (ha : PAX X W (e :: es) xa)
    (hn : x ≠ "__name__" := by decide) (hdb : (x == ("__debug__" : Str)) = false := by decide) (he : starEach (e :: es) X.env = (false, eval e X.env) :: starEach es X.env := by rfl) (hpl : (backTo pos (starEach es X.env)).any (·.1) = false := by rfl) :
    PX X W (.Call (.Name x p) (e :: es) [] pos) (xCall t xa) :=
  let ⟨_, r1, r2⟩ := hc; let ⟨_, p1, q1⟩ := ha; ⟨_, pe_callB r1 hg hm hv p1 hn hdb he hpl, rd_call r2 q1⟩
theorem px_callTy {T : String} {t : List D → Om → QX → Prop} {x : Str} {p pos : Pos} {e : Expr} {es : List Expr} {xa : TAX} (hc : FO X (.type T) t) (hg : Gl X x) (hm : X.mg x = none) (hv : bootBuiltins x = some (.type T)) (ha : PAX X W (e :: es) xa)
    (hn : x ≠ "__name__" := by decide) (hdb : (x == ("__debug__" : Str)) = false := by decide) (he : starEach (e :: es) X.env = (false, eval e X.env) :: starEach es X.env := by rfl) (hpl : (backTo pos (starEach es X.env)).any (·.1) = false := by rfl) :
    PX X W (.Call (.Name x p) (e :: es) [] pos) (xCall t xa) :=
  let ⟨_, r1, r2⟩ := hc; let ⟨_, p1, q1⟩ := ha; ⟨_, pe_callTy r1 hg hm hv p1 hn hdb he hpl, rd_call r2 q1⟩
end

section
variable {K : PySem.W.Frag} {al : AL} {H : Hp} {O : Om}
theorem Rp.tupI {v : V} {ds : List D} (r : Rp K al H v (.tup ds)) : ∃ a xs, v = .ref a ∧ SqT K H a xs ∧ RpA K al H xs ds ∧ xs.length ≤ sizeLine := by
  cases r with
  | tup h hl hr => exact ⟨_, _, rfl, .inl (.inl h.2), hr, hl⟩
theorem Rp.tupX {v : V} {ds : List D} (r : Rp K al H v (.tup ds)) : ∃ a xs, v = .ref a ∧ a ∉ fp al ∧ H a = some (.tup xs) ∧ RpA K al H xs ds ∧ xs.length ≤ sizeLine := by
  cases r with
  | tup h hl hr => exact ⟨_, _, rfl, h.1, h.2, hr, hl⟩
theorem Rp.lstI {v : V} {ds : List D} (r : Rp K al H v (.lst ds)) : ∃ a xs, v = .ref a ∧ SqL K H a xs ∧ RpA K al H xs ds ∧ xs.length ≤ sizeLine := by
  cases r with
  | lst h hl hr => exact ⟨_, _, rfl, h.elim (fun z => .inl z.2) (fun z => z.sq H), hr, hl⟩
theorem Rp.ownI {v : V} {k : Nat} {c : Cell} (rel : Rel K al H O) (r : Rp K al H v (.own k)) (hc : O[k]? = some c) : ∃ o, al.l[k]? = some o ∧ CellOk K al H c o ∧ (∀ p, o = some p → v = .ref p.1) := by
  obtain ⟨o, e, q⟩ := rel.ok k c hc
  cases r with
  | own h hv =>
    rw [h] at e; cases e
    exact ⟨_, h, q, hv⟩
theorem Rp.ownL {v : V} {k : Nat} {ds : List D} (rel : Rel K al H O) (r : Rp K al H v (.own k)) (hc : O[k]? = some (.lst ds)) : ∃ a xs, v = .ref a ∧ al.l[k]? = some (some (a, none)) ∧ H a = some (.lst xs) ∧ xs.length ≤ sizeLine ∧ RpA K al H xs ds := by
  obtain ⟨o, e, q, hv⟩ := r.ownI rel hc
  match o, q with
  | some (a, none), q =>
    obtain ⟨xs, h1, h2, h3⟩ := q
    exact ⟨a, xs, hv _ rfl, e, h1, h2, h3⟩
end
def seqD (O : Om) : D → Option (List D)
  | .tup ds => some ds
  | .lst ds => some ds
  | .own k => match O[k]? with
    | some (.lst ds) => some ds
    | _ => none
  | _ => none
def lstD (O : Om) : D → Option (List D)
  | .lst ds => some ds
  | .own k => match O[k]? with
    | some (.lst ds) => some ds
    | _ => none
  | _ => none
theorem lstD_own {O : Om} {k : Nat} {ds : List D} (h : lstD O (.own k) = some ds) : O[k]? = some (.lst ds) := by
  have h' : (match O[k]? with | some (.lst ds) => some ds | _ => none) = some ds := h
  split at h'
  · rename_i ds' e'
    cases h'
    exact e'
  · cases h'
theorem lstD_rp {K : PySem.W.Frag} {al : AL} {H : Hp} {O : Om} (rel : Rel K al H O) {v : V} {d : D} {ds : List D} (r : Rp K al H v d) (h : lstD O d = some ds) : ∃ a xs, v = .ref a ∧ SqL K H a xs ∧ RpA K al H xs ds ∧ xs.length ≤ sizeLine := by
  cases d with
  | lst es => cases h; exact r.lstI
  | own k =>
    obtain ⟨a, xs, e1, e2, e3, e4, e5⟩ := r.ownL rel (lstD_own h)
    exact ⟨a, xs, e1, .inl (.inl e3), e5, e4⟩
  | _ => exact nomatch h
theorem seqD_rp {K : PySem.W.Frag} {al : AL} {H : Hp} {O : Om} (rel : Rel K al H O) {v : V} {d : D} {ds : List D} (r : Rp K al H v d) (h : seqD O d = some ds) : ∃ a xs, v = .ref a ∧ (SqL K H a xs ∨ SqT K H a xs) ∧ RpA K al H xs ds ∧ xs.length ≤ sizeLine := by
  cases d with
  | lst es => cases h; obtain ⟨a, xs, e1, e2, e3⟩ := r.lstI; exact ⟨a, xs, e1, .inl e2, e3⟩
  | tup es => cases h; obtain ⟨a, xs, e1, e2, e3⟩ := r.tupI; exact ⟨a, xs, e1, .inr e2, e3⟩
  | own k =>
    have h' : lstD O (.own k) = some ds := h
    obtain ⟨a, xs, e1, e2, e3⟩ := lstD_rp rel r h'
    exact ⟨a, xs, e1, .inl e2, e3⟩
  | _ => exact nomatch h

def dAdd (d e : D) (O : Om) (Q : QX) : Prop := match d, e with
  | .int i, .int j => Q (.int (i + j)) O
  | .str x, .str y => x.length + y.length ≤ sizeLine ∧ Q (.str (x ++ y)) O
  | _, _ => False
def dI2 (f : Int → Int → Int) (d e : D) (O : Om) (Q : QX) : Prop := match d, e with
  | .int i, .int j => Q (.int (f i j)) O
  | _, _ => False
def dI2c (c : Int → Int → Prop) (f : Int → Int → Int) (d e : D) (O : Om) (Q : QX) : Prop := match d, e with
  | .int i, .int j => c i j ∧ Q (.int (f i j)) O
  | _, _ => False
def dB2 (f : Int → Int → Bool) (d e : D) (O : Om) (Q : QX) : Prop := match d, e with
  | .int i, .int j => Q (.bl (f i j)) O
  | _, _ => False
def dI1 (f : Int → Int) (d : D) (O : Om) (Q : QX) : Prop := match d with
  | .int i => Q (.int (f i)) O
  | _ => False
section
variable {K : PySem.W.Frag}
theorem rd_dI2 {f : Int → Int → Int} : RdO2 K (rI0 fun i j => .int (f i j)) (dI2 f) := by
  intro al H O x y d e Q R rel rx ry h hq
  cases d <;> cases e <;> first | exact (show False from h).elim | skip
  cases rx; cases ry
  exact ⟨_, _, rfl, rfl, hq _ _ _ _ _ (Stp.refl _ _) rel (.int _) h⟩
theorem rd_dI2c {c : Int → Int → Prop} {f : Int → Int → Int} : RdO2 K (rI c fun i j => .int (f i j)) (dI2c c f) := by
  intro al H O x y d e Q R rel rx ry h hq
  cases d <;> cases e <;> first | exact (show False from h).elim | skip
  cases rx; cases ry
  exact ⟨_, _, rfl, rfl, h.1, hq _ _ _ _ _ (Stp.refl _ _) rel (.int _) h.2⟩
theorem rd_dB2 {f : Int → Int → Bool} : RdO2 K (rI0 fun i j => .bl (f i j)) (dB2 f) := by
  intro al H O x y d e Q R rel rx ry h hq
  cases d <;> cases e <;> first | exact (show False from h).elim | skip
  cases rx; cases ry
  exact ⟨_, _, rfl, rfl, hq _ _ _ _ _ (Stp.refl _ _) rel (.bl _) h⟩
theorem rd_dAdd : RdO2 K (fun x y H Q => rI0 (fun i j => .int (i + j)) x y H Q ∨ (∃ i j, x = .str i ∧ y = .str j ∧ i.length + j.length ≤ sizeLine ∧ Q (.str (i ++ j)) H)) dAdd := by
  intro al H O x y d e Q R rel rx ry h hq
  cases d <;> cases e <;> first | exact (show False from h).elim | skip
  · cases rx; cases ry
    exact .inl ⟨_, _, rfl, rfl, hq _ _ _ _ _ (Stp.refl _ _) rel (.int _) h⟩
  · cases rx with
    | str _ h1 => cases ry with
      | str _ h2 => exact .inr ⟨_, _, rfl, rfl, h.1, hq _ _ _ _ _ (Stp.refl _ _) rel (.str _ (h1.app h2 h.1)) h.2⟩
end
section
variable {X : Cx}
theorem o_add0 : BO X .Add dAdd := ⟨_, OpR.or op_add op_add_str, rd_dAdd⟩
theorem o_sub : BO X .Sub (dI2 fun i j => i - j) := ⟨_, op_sub, rd_dI2⟩
theorem o_mul : BO X .Mult (dI2c CMul fun i j => i * j) := ⟨_, op_mul, rd_dI2c⟩
theorem o_mod : BO X .Mod (dI2c (fun _ j => 0 < j) fun i j => i % j) := ⟨_, op_mod, rd_dI2c⟩
theorem o_fdiv : BO X .FloorDiv (dI2c CDiv fun i j => i / j) := ⟨_, op_fdiv, rd_dI2c⟩
theorem o_pow : BO X .Pow (dI2c CPow fun i j => i ^ j.toNat) := ⟨_, op_pow, rd_dI2c⟩
theorem c_lt : CO X .Lt (dB2 fun i j => decide (i < j)) := ⟨_, op_lt, rd_dB2⟩
theorem c_le : CO X .LtE (dB2 fun i j => decide (i ≤ j)) := ⟨_, op_le, rd_dB2⟩
theorem c_gt : CO X .Gt (dB2 fun i j => decide (j < i)) := ⟨_, op_gt, rd_dB2⟩
theorem c_ge : CO X .GtE (dB2 fun i j => decide (j ≤ i)) := ⟨_, op_ge, rd_dB2⟩
theorem u_neg : UO X .USub (dI1 fun i => -i) := ⟨_, un_neg, fun al H O x d Q R rel rx h hq => by
  cases d <;> first | exact (show False from h).elim | skip
  cases rx
  exact ⟨_, rfl, hq _ _ _ _ _ (Stp.refl _ _) rel (.int _) h⟩⟩
end

/-- room for what the interpreter itself runs -/
structure Un0 (A : Around) : Prop where
  le : A.units + 200 < cLine
theorem Un0.le64 {A : Around} (h : Un0 A) : A.units + 64 < cLine := by have := h.le; omega
theorem _root_.L2.Room.u {k : Nat} {A : Around} (r : Room k A) : Un0 A := ⟨by have := r.un; omega⟩
theorem Un0.mark {A : Around} (h : Un0 A) (v : Option Value) : Un0 (A.mark v) := ⟨h.le⟩
mutual
def D.py : D → Option PyData
  | .non => some .none
  | .bl b => some (.bool b)
  | .int i => some (.int i)
  | .str x => some (.str x)
  | .tup ds => (D.pys ds).map .tuple
  | .lst ds => (D.pys ds).map .list
  | .own _ => none
  | .adr _ => none
def D.pys : List D → Option (List PyData)
  | [] => some []
  | d :: ds => match D.py d, D.pys ds with
    | some p, some ps => some (p :: ps)
    | _, _ => none
end
mutual
def D.ok : Nat → D → Bool
  | n + 1, .tup ds => D.oks n ds
  | n + 1, .lst ds => D.oks n ds
  | 0, .tup _ => false
  | 0, .lst _ => false
  | _, .own _ => false
  | _, .adr _ => false
  | _, _ => true
def D.oks : Nat → List D → Bool
  | _, [] => true
  | n, d :: ds => D.ok n d && D.oks n ds
end
mutual
def D.eq : D → D → Bool
  | .non, .non => true
  | .bl a, .bl b => a == b
  | .bl a, .int j => (if a then 1 else 0) == j
  | .int i, .bl b => i == (if b then 1 else 0)
  | .int i, .int j => i == j
  | .str x, .str y => x == y
  | .lst xs, .lst ys => D.eqs xs ys
  | .tup xs, .tup ys => D.eqs xs ys
  | _, _ => false
def D.eqs : List D → List D → Bool
  | [], [] => true
  | x :: xs, y :: ys => D.eq x y && D.eqs xs ys
  | _, _ => false
end
mutual
theorem D.ok_py : ∀ (n : Nat) (d : D), n ≤ 60 → D.ok n d = true → ∃ p, d.py = some p ∧ p.depth ≤ n + 1
  | _, .non, _, _ => ⟨_, rfl, by simp [PyData.depth]⟩
  | _, .bl b, _, _ => ⟨_, rfl, by simp [PyData.depth]⟩
  | _, .int i, _, _ => ⟨_, rfl, by simp [PyData.depth]⟩
  | _, .str x, _, _ => ⟨_, rfl, by simp [PyData.depth]⟩
  | n + 1, .tup ds, hn, h => by
    have h' : D.oks n ds = true := h
    obtain ⟨ps, e, l⟩ := D.oks_py n ds (by omega) h'
    exact ⟨.tuple ps, by simp [D.py, e], by simp only [PyData.depth]; omega⟩
  | n + 1, .lst ds, hn, h => by
    have h' : D.oks n ds = true := h
    obtain ⟨ps, e, l⟩ := D.oks_py n ds (by omega) h'
    exact ⟨.list ps, by simp [D.py, e], by simp only [PyData.depth]; omega⟩
  | 0, .tup ds, _, h => by cases h
  | 0, .lst ds, _, h => by cases h
  | 0, .own k, _, h => by cases h
  | n + 1, .own k, _, h => by cases h
  | 0, .adr k, _, h => by cases h
  | n + 1, .adr k, _, h => by cases h
theorem D.oks_py : ∀ (n : Nat) (ds : List D), n ≤ 60 → D.oks n ds = true → ∃ ps, D.pys ds = some ps ∧ PyData.depthAll ps ≤ n + 1
  | n, [], _, _ => ⟨[], rfl, by simp [PyData.depthAll]⟩
  | n, d :: ds, hn, h => by
    have h' : (D.ok n d && D.oks n ds) = true := h
    rw [Bool.and_eq_true] at h'
    obtain ⟨p, e1, l1⟩ := D.ok_py n d hn h'.1
    obtain ⟨ps, e2, l2⟩ := D.oks_py n ds hn h'.2
    exact ⟨p :: ps, by simp [D.pys, e1, e2], by simp only [PyData.depthAll]; omega⟩
end
mutual
theorem D.py_eqv : ∀ (d e : D) (p q : PyData), d.py = some p → e.py = some q → PyData.eqv p q = D.eq d e
  | .non, e, p, q, h1, h2 => by
    cases h1
    cases e <;> simp [D.py] at h2 <;> (try (obtain ⟨_, _, rfl⟩ := h2)) <;> (try subst h2) <;> simp [PyData.eqv, D.eq]
  | .bl b, e, p, q, h1, h2 => by
    cases h1
    cases e <;> simp [D.py] at h2 <;> (try (obtain ⟨_, _, rfl⟩ := h2)) <;> (try subst h2) <;> simp [PyData.eqv, D.eq]
  | .int b, e, p, q, h1, h2 => by
    cases h1
    cases e <;> simp [D.py] at h2 <;> (try (obtain ⟨_, _, rfl⟩ := h2)) <;> (try subst h2) <;> simp [PyData.eqv, D.eq]
  | .str b, e, p, q, h1, h2 => by
    cases h1
    cases e <;> simp [D.py] at h2 <;> (try (obtain ⟨_, _, rfl⟩ := h2)) <;> (try subst h2) <;> simp [PyData.eqv, D.eq]
  | .tup ds, e, p, q, h1, h2 => by
    simp only [D.py, Option.map_eq_some_iff] at h1
    obtain ⟨ps, e1, rfl⟩ := h1
    cases e with
    | tup es =>
      simp only [D.py, Option.map_eq_some_iff] at h2
      obtain ⟨qs, e2, rfl⟩ := h2
      have ih := D.pys_eqv ds es ps qs e1 e2
      simp only [PyData.eqv, D.eq]; exact ih
    | lst es => simp only [D.py, Option.map_eq_some_iff] at h2; obtain ⟨qs, e2, rfl⟩ := h2; simp [PyData.eqv, D.eq]
    | own k => simp [D.py] at h2
    | adr k => simp [D.py] at h2
    | _ => simp [D.py] at h2; subst h2; simp [PyData.eqv, D.eq]
  | .lst ds, e, p, q, h1, h2 => by
    simp only [D.py, Option.map_eq_some_iff] at h1
    obtain ⟨ps, e1, rfl⟩ := h1
    cases e with
    | lst es =>
      simp only [D.py, Option.map_eq_some_iff] at h2
      obtain ⟨qs, e2, rfl⟩ := h2
      have ih := D.pys_eqv ds es ps qs e1 e2
      simp only [PyData.eqv, D.eq]; exact ih
    | tup es => simp only [D.py, Option.map_eq_some_iff] at h2; obtain ⟨qs, e2, rfl⟩ := h2; simp [PyData.eqv, D.eq]
    | own k => simp [D.py] at h2
    | adr k => simp [D.py] at h2
    | _ => simp [D.py] at h2; subst h2; simp [PyData.eqv, D.eq]
  | .own k, e, p, q, h1, h2 => by simp [D.py] at h1
  | .adr k, e, p, q, h1, h2 => by simp [D.py] at h1
theorem D.pys_eqv : ∀ (ds es : List D) (ps qs : List PyData), D.pys ds = some ps → D.pys es = some qs → PyData.eqvAll ps qs = D.eqs ds es
  | [], [], ps, qs, h1, h2 => by cases h1; cases h2; simp [PyData.eqvAll, D.eqs]
  | [], e :: es, ps, qs, h1, h2 => by
    cases h1
    simp only [D.pys] at h2
    split at h2
    · cases h2; simp [PyData.eqvAll, D.eqs]
    · cases h2
  | d :: ds, [], ps, qs, h1, h2 => by
    cases h2
    simp only [D.pys] at h1
    split at h1
    · cases h1; simp [PyData.eqvAll, D.eqs]
    · cases h1
  | d :: ds, e :: es, ps, qs, h1, h2 => by
    simp only [D.pys] at h1 h2
    split at h1
    · rename_i p ps' e1 e2
      cases h1
      split at h2
      · rename_i q qs' e3 e4
        cases h2
        have i1 := D.py_eqv d e p q e1 e3
        have i2 := D.pys_eqv ds es ps' qs' e2 e4
        simp only [PyData.eqvAll, D.eqs, i1, i2]
      · cases h2
    · cases h1
end
section
variable {K : PySem.W.Frag} {al : AL} {H : Hp}
mutual
theorem Rp.dp : ∀ (d : D) (v : V) (p : PyData), Rp K al H v d → d.py = some p → Dp K H v p ∧ p.canLay0 = true
  | .non, v, p, h, e => by cases e; cases h; exact ⟨.non, by simp [PyData.canLay0]⟩
  | .bl b, v, p, h, e => by cases e; cases h; exact ⟨.bl b, by simp [PyData.canLay0]⟩
  | .int b, v, p, h, e => by cases e; cases h; exact ⟨.int b, by simp [PyData.canLay0]⟩
  | .str b, v, p, h, e => by
    cases e
    cases h with
    | str _ hs => exact ⟨.str b, by simpa [PyData.canLay0] using hs.2⟩
  | .tup ds, v, p, h, e => by
    simp only [D.py, Option.map_eq_some_iff] at e
    obtain ⟨ps, e1, rfl⟩ := e
    obtain ⟨a, xs, rfl, h1, h2, _⟩ := h.tupI
    have z := RpA.dp ds xs ps h2 e1
    exact ⟨.tup h1 z.1, by simpa [PyData.canLay0] using z.2⟩
  | .lst ds, v, p, h, e => by
    simp only [D.py, Option.map_eq_some_iff] at e
    obtain ⟨ps, e1, rfl⟩ := e
    obtain ⟨a, xs, rfl, h1, h2, _⟩ := h.lstI
    have z := RpA.dp ds xs ps h2 e1
    exact ⟨.lst h1 z.1, by simpa [PyData.canLay0] using z.2⟩
  | .own k, v, p, h, e => by simp [D.py] at e
  | .adr k, v, p, h, e => by simp [D.py] at e
theorem RpA.dp : ∀ (ds : List D) (vs : List V) (ps : List PyData), RpA K al H vs ds → D.pys ds = some ps → DpAll K H vs ps ∧ PyData.canLayAll0 ps = true
  | [], vs, ps, h, e => by cases e; cases h; exact ⟨.nil, by simp [PyData.canLayAll0]⟩
  | d :: ds, vs, ps, h, e => by
    simp only [D.pys] at e
    split at e
    · rename_i p ps' e1 e2
      cases e
      cases h with
      | cons h1 h2 =>
        have z1 := Rp.dp d _ p h1 e1
        have z2 := RpA.dp ds _ ps' h2 e2
        exact ⟨.cons z1.1 z2.1, by simp [PyData.canLayAll0, z1.2, z2.2]⟩
    · cases e
end
end
def snap (O : Om) (d : D) : D := match lstD O d with
  | some ds => .lst ds
  | none => d
theorem snap_rp {K : PySem.W.Frag} {al : AL} {H : Hp} {O : Om} (rel : Rel K al H O) {v : V} {d : D} (r : Rp K al H v d) {p : PyData} (h : (snap O d).py = some p) : Dp K H v p ∧ p.canLay0 = true := by
  unfold snap at h
  split at h
  · rename_i ds e
    obtain ⟨a, xs, rfl, h1, h2, _⟩ := lstD_rp rel r e
    simp only [D.py, Option.map_eq_some_iff] at h
    obtain ⟨ps, e1, rfl⟩ := h
    have z := RpA.dp ds xs ps h2 e1
    exact ⟨.lst h1 z.1, by simpa [PyData.canLay0] using z.2⟩
  · exact Rp.dp d v p r h
def dEq (d e : D) (O : Om) (Q : QX) : Prop := D.ok 20 (snap O d) = true ∧ D.ok 20 (snap O e) = true ∧ Q (.bl (D.eq (snap O d) (snap O e))) O
def dNe (d e : D) (O : Om) (Q : QX) : Prop := D.ok 20 (snap O d) = true ∧ D.ok 20 (snap O e) = true ∧ Q (.bl (!D.eq (snap O d) (snap O e))) O
theorem shaped_ok {d : D} {p : PyData} (h : D.ok 20 d = true) (e : d.py = some p) (c : p.canLay0 = true) : SeqAt.shaped p = true := by
  obtain ⟨p', e1, l⟩ := D.ok_py 20 d (by omega) h
  rw [e] at e1; cases e1
  unfold SeqAt.shaped
  rw [c, decide_eq_true (by omega)]
  rfl
section
variable {X : Cx}
theorem c_eq (hr : Un0 X.A) : CO X .Eq dEq := ⟨_, op_eqD hr.le64, fun al H O x y d e Q R rel rx ry h hq => by
  obtain ⟨h1, h2, h3⟩ := h
  obtain ⟨p, e1, l1⟩ := D.ok_py 20 _ (by omega) h1
  obtain ⟨q, e2, l2⟩ := D.ok_py 20 _ (by omega) h2
  have z1 := snap_rp rel rx e1
  have z2 := snap_rp rel ry e2
  refine ⟨p, q, z1.1, z2.1, shaped_ok h1 e1 z1.2, shaped_ok h2 e2 z2.2, ?_⟩
  rw [D.py_eqv _ _ _ _ e1 e2]
  exact hq _ _ _ _ _ (Stp.refl _ _) rel (.bl _) h3⟩
theorem c_ne (hr : Un0 X.A) : CO X .NotEq dNe := ⟨_, op_neD hr.le64, fun al H O x y d e Q R rel rx ry h hq => by
  obtain ⟨h1, h2, h3⟩ := h
  obtain ⟨p, e1, l1⟩ := D.ok_py 20 _ (by omega) h1
  obtain ⟨q, e2, l2⟩ := D.ok_py 20 _ (by omega) h2
  have z1 := snap_rp rel rx e1
  have z2 := snap_rp rel ry e2
  refine ⟨p, q, z1.1, z2.1, shaped_ok h1 e1 z1.2, shaped_ok h2 e2 z2.2, ?_⟩
  rw [D.py_eqv _ _ _ _ e1 e2]
  exact hq _ _ _ _ _ (Stp.refl _ _) rel (.bl _) h3⟩
end
end Px

namespace Px
open PySem PySem.Spec PyProof.Rows L2

def dTru (O : Om) (d : D) (Q : Bool → Prop) : Prop := match d with
  | .non => Q false
  | .bl b => Q b
  | .int i => Q (i != 0)
  | .str x => Q (x.length != 0)
  | .tup ds => Q (!ds.isEmpty)
  | .lst ds => Q (!ds.isEmpty)
  | .own k => match O[k]? with
    | some (.lst ds) => Q (!ds.isEmpty)
    | some (.dK ds) => Q (!ds.isEmpty)
    | _ => False
  | .adr _ => False
def xTru (a : TX) : TTX := fun G O Q E => a G O (fun d O1 => dTru O1 d fun b => Q b O1) E
def dBool (d : D) (Q : Bool → Prop) : Prop := match d with
  | .bl b => Q b
  | _ => False
def xBool (a : TX) : TTX := fun G O Q E => a G O (fun d O1 => dBool d fun b => Q b O1) E
def xAndT (a b : TTX) : TTX := fun G O Q E => a G O (fun c O1 => xite c (b G O1 Q E) (Q false O1)) E
def xOrT (a b : TTX) : TTX := fun G O Q E => a G O (fun c O1 => xite c (Q true O1) (b G O1 Q E)) E
def xNotT (a : TTX) : TTX := fun G O Q E => a G O (fun c O1 => Q (!c) O1) E
def xAndV (a b : TX) : TX := fun G O Q E => a G O (fun d O1 => dBool d fun c => xite c (b G O1 Q E) (Q (.bl false) O1)) E
def xOrV (a b : TX) : TX := fun G O Q E => a G O (fun d O1 => dBool d fun c => xite c (Q (.bl true) O1) (b G O1 Q E)) E
def xNotV (a : TX) : TX := fun G O Q E => a G O (fun d O1 => dBool d fun c => Q (.bl (!c)) O1) E
def xIfE (t : TTX) (a b : TX) : TX := fun G O Q E => t G O (fun c O1 => xite c (a G O1 Q E) (b G O1 Q E)) E
def xChain (t t' : D → D → Om → QX → Prop) (a b c : TX) : TX := fun G O Q E => a G O (fun d O1 => b G O1 (fun e O2 => t d e O2 fun z O3 => dBool z fun k =>
  xite k (c G O3 (fun f O4 => t' e f O4 Q) E) (Q (.bl false) O3)) E) E
section
variable {K : PySem.W.Frag} {W : WX}
theorem isEmpty_rp {al : AL} {H : Hp} {xs : List V} {ds : List D} (r : RpA K al H xs ds) : (!xs.isEmpty) = !ds.isEmpty := by
  cases r <;> rfl
theorem isEmpty_rpk {al : AL} {H : Hp} {κ : Type} {xs : List (κ × V)} {ds : List (κ × D)} (r : RpK K al H xs ds) : (!xs.isEmpty) = !ds.isEmpty := by
  have e := r.1
  cases xs <;> cases ds <;> first | rfl | cases e
theorem tru_rp {al : AL} {H : Hp} {O : Om} (rel : Rel K al H O) {v : V} {d : D} {Q : Bool → Prop} (r : Rp K al H v d) (h : dTru O d Q) : ∃ b, TruV K v H b ∧ Q b := by
  cases d with
  | non => cases r; exact ⟨false, rfl, h⟩
  | bl b => cases r; exact ⟨b, rfl, h⟩
  | int i => cases r; exact ⟨_, rfl, h⟩
  | str x =>
    cases r with
    | str _ hs => exact ⟨_, ⟨hs.1, rfl⟩, by
        have e : (((x.length : Nat) : Int) != 0) = (x.length != 0) := by
          rw [Bool.eq_iff_iff, bne_iff_ne, bne_iff_ne]
          omega
        rw [e]; exact h⟩
  | tup ds =>
    obtain ⟨a, xs, rfl, h1, h2, _⟩ := r.tupI
    exact ⟨_, .inr (.inl ⟨xs, h1, rfl⟩), by rw [isEmpty_rp h2]; exact h⟩
  | lst ds =>
    obtain ⟨a, xs, rfl, h1, h2, _⟩ := r.lstI
    exact ⟨_, .inl ⟨xs, h1, rfl⟩, by rw [isEmpty_rp h2]; exact h⟩
  | adr a => exact (show False from h).elim
  | own k =>
    have h' : (match O[k]? with | some (.lst ds) => Q (!ds.isEmpty) | some (.dK ds) => Q (!ds.isEmpty) | _ => False) := h
    split at h'
    · rename_i ds e
      obtain ⟨a, xs, rfl, _, h1, _, h2⟩ := r.ownL rel e
      exact ⟨_, .inl ⟨xs, .inl (.inl h1), rfl⟩, by rw [isEmpty_rp h2]; exact h'⟩
    · rename_i ds e
      obtain ⟨o, e1, q, hv⟩ := r.ownI rel e
      match o, q with
      | some (a, none), q =>
        obtain ⟨vs, h1, h2⟩ := q
        obtain rfl := hv _ rfl
        exact ⟨_, .inr (.inr ⟨vs, h1, rfl⟩), by rw [isEmpty_rpk h2]; exact h'⟩
    · exact h'.elim
theorem rd_tru {te : TE} {t : TX} (h : RdE K W te t) : RdT K W (fun σ H Q => te σ H fun x H' => ∃ k, TruV K x H' k ∧ Q k H') (xTru t) := by
  intro al H σ G O Q E R rel env q hq he
  refine h al H σ G O _ E _ rel env q (fun al1 H1 O1 v d s1 rel1 r1 q1 => ?_) he
  obtain ⟨b, h1, h2⟩ := tru_rp rel1 r1 q1
  exact ⟨b, h1, hq _ _ _ _ s1 rel1 h2⟩
theorem bool_rp {al : AL} {H : Hp} {v : V} {d : D} {Q : Bool → Prop} (r : Rp K al H v d) (h : dBool d Q) : ∃ b, v = .bl b ∧ Q b := by
  cases d with
  | bl b => cases r; exact ⟨b, rfl, h⟩
  | _ => exact (show False from h).elim
theorem rd_bool {te : TE} {t : TX} (h : RdE K W te t) : RdT K W (tB te) (xBool t) := by
  intro al H σ G O Q E R rel env q hq he
  refine h al H σ G O _ E _ rel env q (fun al1 H1 O1 v d s1 rel1 r1 q1 => ?_) he
  obtain ⟨b, h1, h2⟩ := bool_rp r1 q1
  exact ⟨b, h1, hq _ _ _ _ s1 rel1 h2⟩
theorem rd_andT {ta tb : TT} {a b : TTX} (ha : RdT K W ta a) (hb : RdT K W tb b) : RdT K W (tAnd ta tb) (xAndT a b) := by
  intro al H σ G O Q E R rel env q hq he
  refine ha al H σ G O _ E _ rel env q (fun al1 H1 O1 c s1 rel1 q1 => ?_) he
  cases c with
  | true => exact hb al1 H1 σ G O1 Q E R rel1 (env.mono s1) q1 (fun _ _ _ _ s' => hq _ _ _ _ (s1.trans s')) (fun _ _ _ _ _ _ s' => he _ _ _ _ _ _ (s1.trans s'))
  | false => exact hq _ _ _ _ s1 rel1 q1
theorem rd_orT {ta tb : TT} {a b : TTX} (ha : RdT K W ta a) (hb : RdT K W tb b) : RdT K W (tOr ta tb) (xOrT a b) := by
  intro al H σ G O Q E R rel env q hq he
  refine ha al H σ G O _ E _ rel env q (fun al1 H1 O1 c s1 rel1 q1 => ?_) he
  cases c with
  | true => exact hq _ _ _ _ s1 rel1 q1
  | false => exact hb al1 H1 σ G O1 Q E R rel1 (env.mono s1) q1 (fun _ _ _ _ s' => hq _ _ _ _ (s1.trans s')) (fun _ _ _ _ _ _ s' => he _ _ _ _ _ _ (s1.trans s'))
theorem rd_notT {ta : TT} {a : TTX} (ha : RdT K W ta a) : RdT K W (tNot ta) (xNotT a) := by
  intro al H σ G O Q E R rel env q hq he
  exact ha al H σ G O _ E _ rel env q (fun al1 H1 O1 c s1 rel1 q1 => hq _ _ _ _ s1 rel1 q1) he
theorem rd_andV {ta tb : TE} {a b : TX} (ha : RdE K W ta a) (hb : RdE K W tb b) : RdE K W (tAndV ta tb) (xAndV a b) := by
  intro al H σ G O Q E R rel env q hq he
  refine ha al H σ G O _ E _ rel env q (fun al1 H1 O1 v d s1 rel1 r1 q1 => ?_) he
  obtain ⟨c, h1, h2⟩ := bool_rp r1 q1
  refine ⟨c, h1, ?_⟩
  cases c with
  | true => exact hb al1 H1 σ G O1 Q E R rel1 (env.mono s1) h2 (fun _ _ _ _ _ s' => hq _ _ _ _ _ (s1.trans s')) (fun _ _ _ _ _ _ s' => he _ _ _ _ _ _ (s1.trans s'))
  | false => exact hq _ _ _ _ _ s1 rel1 (.bl false) h2
theorem rd_orV {ta tb : TE} {a b : TX} (ha : RdE K W ta a) (hb : RdE K W tb b) : RdE K W (tOrV ta tb) (xOrV a b) := by
  intro al H σ G O Q E R rel env q hq he
  refine ha al H σ G O _ E _ rel env q (fun al1 H1 O1 v d s1 rel1 r1 q1 => ?_) he
  obtain ⟨c, h1, h2⟩ := bool_rp r1 q1
  refine ⟨c, h1, ?_⟩
  cases c with
  | true => exact hq _ _ _ _ _ s1 rel1 (.bl true) h2
  | false => exact hb al1 H1 σ G O1 Q E R rel1 (env.mono s1) h2 (fun _ _ _ _ _ s' => hq _ _ _ _ _ (s1.trans s')) (fun _ _ _ _ _ _ s' => he _ _ _ _ _ _ (s1.trans s'))
theorem rd_notV {ta : TE} {a : TX} (ha : RdE K W ta a) : RdE K W (tNotV ta) (xNotV a) := by
  intro al H σ G O Q E R rel env q hq he
  refine ha al H σ G O _ E _ rel env q (fun al1 H1 O1 v d s1 rel1 r1 q1 => ?_) he
  obtain ⟨c, h1, h2⟩ := bool_rp r1 q1
  exact ⟨c, h1, hq _ _ _ _ _ s1 rel1 (.bl _) h2⟩
theorem rd_ifE {tc : TT} {ta tb : TE} {c : TTX} {a b : TX} (hc : RdT K W tc c) (ha : RdE K W ta a) (hb : RdE K W tb b) : RdE K W (tIf tc ta tb) (xIfE c a b) := by
  intro al H σ G O Q E R rel env q hq he
  refine hc al H σ G O _ E _ rel env q (fun al1 H1 O1 k s1 rel1 q1 => ?_) he
  cases k with
  | true => exact ha al1 H1 σ G O1 Q E R rel1 (env.mono s1) q1 (fun _ _ _ _ _ s' => hq _ _ _ _ _ (s1.trans s')) (fun _ _ _ _ _ _ s' => he _ _ _ _ _ _ (s1.trans s'))
  | false => exact hb al1 H1 σ G O1 Q E R rel1 (env.mono s1) q1 (fun _ _ _ _ _ s' => hq _ _ _ _ _ (s1.trans s')) (fun _ _ _ _ _ _ s' => he _ _ _ _ _ _ (s1.trans s'))
theorem rd_chain {r r' : R2} {t t' : D → D → Om → QX → Prop} {ta tb tc : TE} {a b c : TX} (hr : RdO2 K r t) (hr' : RdO2 K r' t') (ha : RdE K W ta a) (hb : RdE K W tb b) (hc : RdE K W tc c) : RdE K W (tChain r r' ta tb tc) (xChain t t' a b c) := by
  intro al H σ G O Q E R rel env q hq he
  refine ha al H σ G O _ E _ rel env q (fun al1 H1 O1 x d s1 rel1 r1 q1 => ?_) he
  refine hb al1 H1 σ G O1 _ E _ rel1 (env.mono s1) q1 (fun al2 H2 O2 y e s2 rel2 r2 q2 => ?_) (fun _ _ _ _ _ _ s' => he _ _ _ _ _ _ (s1.trans s'))
  refine hr al2 H2 O2 x y d e _ _ rel2 (r1.mono s2) r2 q2 (fun al3 H3 O3 z f s3 rel3 r3 q3 => ?_)
  obtain ⟨k, h1, h2⟩ := bool_rp r3 q3
  refine ⟨k, h1, ?_⟩
  have s13 := (s1.trans s2).trans s3
  cases k with
  | true =>
    refine hc al3 H3 σ G O3 _ E _ rel3 (env.mono s13) h2 (fun al4 H4 O4 w f' s4 rel4 r4 q4 => ?_) (fun _ _ _ _ _ _ s' => he _ _ _ _ _ _ (s13.trans s'))
    exact hr' al4 H4 O4 y w e f' Q R rel4 (r2.mono (s3.trans s4)) r4 q4 fun _ _ _ _ _ s' => hq _ _ _ _ _ ((s13.trans s4).trans s')
  | false => exact hq _ _ _ _ _ s13 rel3 (.bl false) h2
end
section
variable {X : Cx} {W : WX} {a b c : Expr} {pos : Pos} {rest : List Expr}
theorem ptx_tru {t : TX} (h : PX X W a t) (he : ∀ whole, isTrue a X.env whole = (do let v ← whole; standAt a.pos; holding [v] (truthy v)) := by intro _; rfl) : PTX X W a (xTru t) := let ⟨_, p, q⟩ := h; ⟨_, pt_truth p he, rd_tru q⟩
theorem ptx_cmp {op : CmpOp} {t : D → D → Om → QX → Prop} {xa xb : TX} (hr : CO X op t) (ha : PX X W a xa) (hb : PX X W b xb) (hm : behindInMarks op b = false := by first | rfl | exact nomark _) : PTX X W (.Compare a [op] [b] pos) (xBool (xOp t xa xb)) :=
  let ⟨_, r1, r2⟩ := hr; let ⟨_, p1, q1⟩ := ha; let ⟨_, p2, q2⟩ := hb; ⟨_, pt_cmpR r1 p1 p2 hm, rd_bool (rd_op r2 q1 q2)⟩
theorem px_chain {op op' : CmpOp} {t t' : D → D → Om → QX → Prop} {xa xb xc : TX} (hr : CO X op t) (hr' : CO X op' t') (ha : PX X W a xa) (hb : PX X W b xb) (hc : PX X W c xc) (hm : lastMarks [op, op'] [b, c] = false := by with_unfolding_all rfl) :
    PX X W (.Compare a [op, op'] [b, c] pos) (xChain t t' xa xb xc) :=
  let ⟨_, r1, r2⟩ := hr; let ⟨_, r3, r4⟩ := hr'; let ⟨_, p1, q1⟩ := ha; let ⟨_, p2, q2⟩ := hb; let ⟨_, p3, q3⟩ := hc; ⟨_, pe_chain r1 r3 p1 p2 p3 hm, rd_chain r2 r4 q1 q2 q3⟩
theorem ptx_chain {op op' : CmpOp} {t t' : D → D → Om → QX → Prop} {xa xb xc : TX} (hr : CO X op t) (hr' : CO X op' t') (ha : PX X W a xa) (hb : PX X W b xb) (hc : PX X W c xc) (hm : lastMarks [op, op'] [b, c] = false := by with_unfolding_all rfl) :
    PTX X W (.Compare a [op, op'] [b, c] pos) (xBool (xChain t t' xa xb xc)) :=
  let ⟨_, r1, r2⟩ := hr; let ⟨_, r3, r4⟩ := hr'; let ⟨_, p1, q1⟩ := ha; let ⟨_, p2, q2⟩ := hb; let ⟨_, p3, q3⟩ := hc; ⟨_, pt_chain r1 r3 p1 p2 p3 hm, rd_bool (rd_chain r2 r4 q1 q2 q3)⟩
theorem PWX.pt {e : Expr} {t : TTX} (h : PWX X W e t) : PTX X W e t := let ⟨_, p, q⟩ := h; ⟨_, p.pt, q⟩
theorem pwx_and1 {t : TTX} (h : PTX X W a t) : PWX X W (.BoolOp .And [a] pos) t := let ⟨_, p, q⟩ := h; ⟨_, pw_and1 p, q⟩
theorem pwx_or1 {t : TTX} (h : PTX X W a t) : PWX X W (.BoolOp .Or [a] pos) t := let ⟨_, p, q⟩ := h; ⟨_, pw_or1 p, q⟩
theorem pwx_and {t u : TTX} (h : PTX X W a t) (h2 : PWX X W (.BoolOp .And (b :: rest) pos) u) : PWX X W (.BoolOp .And (a :: b :: rest) pos) (xAndT t u) := let ⟨_, p, q⟩ := h; let ⟨_, p2, q2⟩ := h2; ⟨_, pw_and p p2, rd_andT q q2⟩
theorem pwx_or {t u : TTX} (h : PTX X W a t) (h2 : PWX X W (.BoolOp .Or (b :: rest) pos) u) : PWX X W (.BoolOp .Or (a :: b :: rest) pos) (xOrT t u) := let ⟨_, p, q⟩ := h; let ⟨_, p2, q2⟩ := h2; ⟨_, pw_or p p2, rd_orT q q2⟩
theorem ptx_not {t : TTX} (h : PTX X W a t) : PTX X W (.UnaryOp .Not a pos) (xNotT t) := let ⟨_, p, q⟩ := h; ⟨_, pt_not p, rd_notT q⟩
theorem px_one {op : BoolOp} {t : TX} (h : PX X W a t) : PX X W (.BoolOp op [a] pos) t := let ⟨_, p, q⟩ := h; ⟨_, pe_one p, q⟩
theorem px_and {t u : TX} (h : PX X W a t) (h2 : PX X W (.BoolOp .And (b :: rest) pos) u) : PX X W (.BoolOp .And (a :: b :: rest) pos) (xAndV t u) := let ⟨_, p, q⟩ := h; let ⟨_, p2, q2⟩ := h2; ⟨_, pe_and p p2, rd_andV q q2⟩
theorem px_or {t u : TX} (h : PX X W a t) (h2 : PX X W (.BoolOp .Or (b :: rest) pos) u) : PX X W (.BoolOp .Or (a :: b :: rest) pos) (xOrV t u) := let ⟨_, p, q⟩ := h; let ⟨_, p2, q2⟩ := h2; ⟨_, pe_or p p2, rd_orV q q2⟩
theorem px_not {t : TX} (h : PX X W a t) : PX X W (.UnaryOp .Not a pos) (xNotV t) := let ⟨_, p, q⟩ := h; ⟨_, pe_not p, rd_notV q⟩
theorem px_ifE {t : TTX} {xa xb : TX} (hc : PTX X W c t) (ha : PX X W a xa) (hb : PX X W b xb) : PX X W (.IfExp c a b pos) (xIfE t xa xb) := let ⟨_, p, q⟩ := hc; let ⟨_, p1, q1⟩ := ha; let ⟨_, p2, q2⟩ := hb; ⟨_, pe_ifExp p p1 p2, rd_ifE q q1 q2⟩
end

def xNext : TSX := fun D G O => D.nx G O
def xSeq (t u : TSX) : TSX := fun D G O => t { D with nx := u D } G O
def xBreak : TSX := fun D G O => D.bk G O
def xCont : TSX := fun D G O => D.ct G O
def xDrop (t : TX) : TSX := fun D G O => t G O (fun _ O1 => D.nx G O1) (fun x O1 => D.ex x G O1)
def xRet (t : TX) : TSX := fun D G O => t G O D.rt (fun x O1 => D.ex x G O1)
def xRetN : TSX := fun D _ O => D.rt .non O
def xIf (c : TTX) (t u : TSX) : TSX := fun D G O => c G O (fun b O1 => xite b (t D G O1) (u D G O1)) (fun x O1 => D.ex x G O1)
def xAsg (t : TX) (g : TGX) : TSX := fun D G O => t G O (fun d O1 => g d G O1 D.nx (fun x O2 => D.ex x G O2)) (fun x O1 => D.ex x G O1)
def xName (i : Nat) : TGX := fun d G O Q _ => gsetK G i (some d) fun G' => Q G' O
abbrev TGsX := List D → Gam → Om → (Gam → Om → Prop) → Prop
def xgNil : TGsX := fun ds G O Q => ds = [] ∧ Q G O
def xgCons (i : Nat) (u : TGsX) : TGsX := fun ds G O Q => match ds with
  | d :: r => gsetK G i (some d) fun G' => u r G' O Q
  | [] => False
def xTupG (n : Nat) (t : TGsX) : TGX := fun d G O Q _ => match d with
  | .tup ds => ds.length = n ∧ t ds G O Q
  | _ => False
section
variable {K : PySem.W.Frag} {W : WX}
theorem rd_next : RdS K W tNext xNext := fun al H σ G O D R rel env h e => e.nx _ _ _ _ _ (Stp.refl _ _) rel env h
theorem rd_break : RdS K W tBreak xBreak := fun al H σ G O D R rel env h e => e.bk _ _ _ _ _ (Stp.refl _ _) rel env h
theorem rd_cont : RdS K W tCont xCont := fun al H σ G O D R rel env h e => e.ct _ _ _ _ _ (Stp.refl _ _) rel env h
theorem rd_seq {t u : TS} {a b : TSX} (ha : RdS K W t a) (hb : RdS K W u b) : RdS K W (tSeq t u) (xSeq a b) := by
  intro al H σ G O D R rel env h e
  refine ha al H σ G O _ _ rel env h ⟨fun al1 H1 O1 σ1 G1 s1 rel1 env1 q => ?_, e.rt, e.bk, e.ct, e.ex⟩
  exact hb al1 H1 σ1 G1 O1 D R rel1 env1 q (e.mono s1)
theorem rd_drop {te : TE} {t : TX} (h : RdE K W te t) : RdS K W (tDrop te) (xDrop t) := by
  intro al H σ G O D R rel env q e
  exact h al H σ G O _ _ _ rel env q (fun al1 H1 O1 v d s1 rel1 r1 q1 => e.nx _ _ _ _ _ s1 rel1 (env.mono s1) q1) (fun al1 H1 O1 x cls dd s1 rel1 r1 q1 => e.ex _ _ _ _ _ _ _ _ s1 rel1 (env.mono s1) r1 q1)
theorem rd_ret {te : TE} {t : TX} (h : RdE K W te t) : RdS K W (tRet te) (xRet t) := by
  intro al H σ G O D R rel env q e
  exact h al H σ G O _ _ _ rel env q (fun al1 H1 O1 v d s1 rel1 r1 q1 => e.rt _ _ _ _ _ s1 rel1 r1 q1) (fun al1 H1 O1 x cls dd s1 rel1 r1 q1 => e.ex _ _ _ _ _ _ _ _ s1 rel1 (env.mono s1) r1 q1)
theorem rd_retN : RdS K W tRetN xRetN := fun al H σ G O D R rel env h e => e.rt _ _ _ _ _ (Stp.refl _ _) rel .non h
theorem rd_if {tc : TT} {t u : TS} {c : TTX} {a b : TSX} (hc : RdT K W tc c) (ha : RdS K W t a) (hb : RdS K W u b) : RdS K W (tIfS tc t u) (xIf c a b) := by
  intro al H σ G O D R rel env q e
  refine hc al H σ G O _ _ _ rel env q (fun al1 H1 O1 k s1 rel1 q1 => ?_) (fun al1 H1 O1 x cls dd s1 rel1 r1 q1 => e.ex _ _ _ _ _ _ _ _ s1 rel1 (env.mono s1) r1 q1)
  cases k with
  | true => exact ha al1 H1 σ G O1 D R rel1 (env.mono s1) q1 (e.mono s1)
  | false => exact hb al1 H1 σ G O1 D R rel1 (env.mono s1) q1 (e.mono s1)
theorem rd_asg {is : List Nat} {te : TE} {tg : TG} {t : TX} {g : TGX} (h : RdE K W te t) (hg : RdG K W is tg g) : RdS K W (tAsg te tg) (xAsg t g) := by
  intro al H σ G O D R rel env q e
  refine h al H σ G O _ _ _ rel env q (fun al1 H1 O1 v d s1 rel1 r1 q1 => ?_) (fun al1 H1 O1 x cls dd s1 rel1 r1 q1 => e.ex _ _ _ _ _ _ _ _ s1 rel1 (env.mono s1) r1 q1)
  exact hg al1 H1 σ G O1 v d _ _ _ rel1 (env.mono s1) r1 q1 (fun al2 H2 O2 σ2 G2 s2 rel2 env2 _ q2 => e.nx _ _ _ _ _ (s1.trans s2) rel2 env2 q2)
    (fun al2 H2 O2 x cls dd s2 rel2 r2 q2 => e.ex _ _ _ _ _ _ _ _ (s1.trans s2) rel2 (env.mono (s1.trans s2)) r2 q2)
theorem EnvR.set {al : AL} {H : Hp} {σ : L2.St} {G : Gam} {i : Nat} {v : V} {d : D} (env : EnvR K al H σ G) (r : Rp K al H v d) : EnvR K al H (σ.set i (some v)) (G.set i (some d)) := by
  refine ⟨by rw [List.length_set, List.length_set]; exact env.len, fun j e h => ?_⟩
  by_cases hj : j = i
  · subst hj
    by_cases hlt : j < G.length
    · rw [List.getElem?_set_self hlt] at h
      cases h
      exact ⟨v, List.getElem?_set_self (by rw [env.len]; exact hlt), r⟩
    · rw [List.getElem?_eq_none (by rw [List.length_set]; omega)] at h; cases h
  · rw [List.getElem?_set_ne (Ne.symm hj)] at h
    obtain ⟨u, h1, h2⟩ := env.get j e h
    exact ⟨u, by rw [List.getElem?_set_ne (Ne.symm hj)]; exact h1, h2⟩
theorem wipe_set {σ : L2.St} {i : Nat} {x : Option V} : ∀ {vs : List Nat}, i ∈ vs → wipe (σ.set i x) vs = wipe σ vs
  | [], h => by cases h
  | v :: vs, h => by
    show (wipe (σ.set i x) vs).set v none = (wipe σ vs).set v none
    by_cases hv : i ∈ vs
    · rw [wipe_set hv]
    · have e : i = v := by
        rcases List.mem_cons.mp h with e | e
        · exact e
        · exact absurd e hv
      subst e
      have comm : ∀ vs : List Nat, i ∉ vs → wipe (σ.set i x) vs = (wipe σ vs).set i x := by
        intro vs
        induction vs with
        | nil => intro _; rfl
        | cons u us ih =>
          intro hn
          show (wipe (σ.set i x) us).set u none = ((wipe σ us).set u none).set i x
          rw [ih (fun m => hn (List.mem_cons_of_mem _ m)), List.set_comm]
          exact fun e => hn (by rw [e]; exact List.mem_cons_self)
      rw [comm vs hv, List.set_set]
theorem rd_name {i : Nat} : RdG K W [i] (gName i) (xName i) := by
  intro al H σ G O v d Q E R rel env r h hq he
  exact hq _ _ _ _ _ (Stp.refl _ _) rel (env.set r) (fun vs hv => wipe_set (hv i List.mem_cons_self)) (by have h' : gsetK G i (some d) (fun G' => Q G' O) := h; rw [gsetK_eq] at h'; exact h')
def RdGs (K : PySem.W.Frag) (is : List Nat) (tg : TGs) (t : TGsX) : Prop := ∀ (al : AL) (H : Hp) (σ : L2.St) (G : Gam) (O : Om) (vs : List V) (ds : List D) (Q : Gam → Om → Prop) (R : L2.St → Hp → Prop), Rel K al H O → EnvR K al H σ G → RpA K al H vs ds → t ds G O Q →
  (∀ σ' G', EnvR K al H σ' G' → (∀ vs : List Nat, (∀ i ∈ is, i ∈ vs) → wipe σ' vs = wipe σ vs) → Q G' O → R σ' H) → tg vs σ H R
theorem rd_gnil : RdGs K [] gNil xgNil := by
  intro al H σ G O vs ds Q R rel env r h hq
  obtain ⟨rfl, h⟩ := h
  cases r
  exact ⟨rfl, hq _ _ env (fun _ _ => rfl) h⟩
theorem rd_gcons {i : Nat} {is : List Nat} {tg : TGs} {t : TGsX} (hg : RdGs K is tg t) : RdGs K (i :: is) (gCons (gName i) tg) (xgCons i t) := by
  intro al H σ G O vs ds Q R rel env r h hq
  cases r with
  | nil => exact (show False from h).elim
  | @cons v vs d ds r1 r2 =>
    have h' : gsetK G i (some d) (fun G' => t ds G' O Q) := h
    rw [gsetK_eq] at h'
    exact ⟨_, _, rfl, hg al H _ _ O _ _ Q R rel (env.set r1) r2 h' fun σ' G' e hw => hq σ' G' e fun vs hv => by
      rw [hw vs (fun j hj => hv j (List.mem_cons_of_mem _ hj)), wipe_set (hv i List.mem_cons_self)]⟩
theorem rd_tupG {n : Nat} {is : List Nat} {tg : TGs} {t : TGsX} (hg : RdGs K is tg t) : RdG K W is (gTup K n tg) (xTupG n t) := by
  intro al H σ G O v d Q E R rel env r h hq he
  cases d with
  | tup ds =>
    obtain ⟨hl, h⟩ := h
    obtain ⟨a, xs, rfl, h1, h2, h3⟩ := r.tupI
    exact ⟨a, xs, rfl, h1, by rw [h2.length]; exact hl, hg al H σ G O xs ds Q R rel env h2 h fun σ' G' env' hw q => hq _ _ _ _ _ (Stp.refl _ _) rel env' hw q⟩
  | _ => exact (show False from h).elim
end
section
variable {X : Cx} {W : WX} {st : Stmt} {rest : List Stmt} {e : Expr} {pos : Pos}
def PGsX (X : Cx) (ts : List Expr) (is : List Nat) (t : TGsX) : Prop := ∃ g, PGs X ts g ∧ RdGs X.K is g t
theorem psx_nil : PSsX X W [] xNext := ⟨_, pss_nil, rd_next⟩
theorem psx_cons {t u : TSX} (h : PSX X W st t) (h2 : PSsX X W rest u) : PSsX X W (st :: rest) (xSeq t u) := let ⟨_, p, q⟩ := h; let ⟨_, p2, q2⟩ := h2; ⟨_, pss_cons p p2, rd_seq q q2⟩
theorem psx_one {t : TSX} (h : PSX X W st t) : PSsX X W [st] (xSeq t xNext) := psx_cons h psx_nil
theorem psx_ret {t : TX} (h : PX X W e t) : PSX X W (.Return (some e) pos) (xRet t) := let ⟨_, p, q⟩ := h; ⟨_, ps_ret p, rd_ret q⟩
theorem psx_retN : PSX X W (.Return none pos) xRetN := ⟨_, ps_retN, rd_retN⟩
theorem psx_break : PSX X W (.Break pos) xBreak := ⟨_, ps_break, rd_break⟩
theorem psx_cont : PSX X W (.Continue pos) xCont := ⟨_, ps_continue, rd_cont⟩
theorem psx_pass : PSX X W (.Pass pos) xNext := ⟨_, ps_pass, rd_next⟩
theorem psx_expr {t : TX} (h : PX X W e t) (hs : swapsWith e none pos.line X.env = pure false := by rfl) : PSX X W (.Expr e pos) (xDrop t) := let ⟨_, p, q⟩ := h; ⟨_, ps_expr p hs, rd_drop q⟩
theorem psx_if {c : Expr} {a b : List Stmt} {t : TTX} {u v : TSX} (hc : PTX X W c t) (ha : PSsX X W a u) (hb : PSsX X W b v) : PSX X W (.If c a b pos) (xIf t u v) := let ⟨_, p, q⟩ := hc; let ⟨_, p1, q1⟩ := ha; let ⟨_, p2, q2⟩ := hb; ⟨_, ps_if p p1 p2, rd_if q q1 q2⟩
theorem psx_asg {is : List Nat} {tg : Expr} {t : TX} {g : TGX} (he : PX X W e t) (hg : PGX X W tg is g) (hs : swapsWithSole [tg] e pos.line X.env = pure false := by rfl) (hw : swappedStores [tg] e X.env = pure none := by rfl)
    (h1 : (assignEach [tg] X.env).map (·.2) = [assign tg X.env] := by rfl) : PSX X W (.Assign [tg] e pos) (xAsg t g) := let ⟨_, p, q⟩ := he; let ⟨_, p2, q2⟩ := hg; ⟨_, ps_asg p p2 hs hw h1, rd_asg q q2⟩
theorem psx_set {i : Nat} {x : Str} {t : TX} {pos' : Pos} (hN : X.N.Nodup) (hi : X.N[i]? = some x) (hx : Loc X.env.scope x) (he : PX X W e t) (hs : swapsWith e (some (.Name x pos')) pos.line X.env = pure false := by rfl) (hf : X.fn x = true ∨ X.env.scope.names.lookup x = some .local := by first | exact .inl rfl | exact .inr rfl | assumption) :
    PSX X W (.Assign [.Name x pos'] e pos) (xAsg t (xName i)) := let ⟨_, p, q⟩ := he; ⟨_, ps_set hN hi hx p hs hf, rd_asg q rd_name⟩
theorem pgx_name {i : Nat} {x : Str} (hN : X.N.Nodup) (hi : X.N[i]? = some x) (hx : Loc X.env.scope x) (hf : X.fn x = true ∨ X.env.scope.names.lookup x = some .local := by first | exact .inl rfl | exact .inr rfl | assumption) : PGX X W (.Name x pos) [i] (xName i) := ⟨_, pg_name hN hi hx hf, rd_name⟩
theorem pgsx_nil : PGsX X [] [] xgNil := ⟨_, pgs_nil, rd_gnil⟩
theorem pgsx_cons {i : Nat} {is : List Nat} {x : Str} {es : List Expr} {u : TGsX} (hN : X.N.Nodup) (hi : X.N[i]? = some x) (hx : Loc X.env.scope x) (h : PGsX X es is u) (hf : X.fn x = true ∨ X.env.scope.names.lookup x = some .local := by first | exact .inl rfl | exact .inr rfl | assumption)
    (hs : (assignEach (.Name x pos :: es) X.env).map (·.2) = assign (.Name x pos) X.env :: (assignEach es X.env).map (·.2) := by rfl) : PGsX X (.Name x pos :: es) (i :: is) (xgCons i u) := let ⟨_, p, q⟩ := h; ⟨_, pgs_cons (pg_name hN hi hx hf) p hs, rd_gcons q⟩
theorem pgx_tup {es : List Expr} {is : List Nat} {k : Nat} {t : TGsX} {n : Nat} (hc : X.calm = true) (h : PGsX X es is t) (hn : (assignEach es X.env).length = n := by rfl) (hst : (assignEach es X.env).findIdx? (·.1) = none := by rfl) : PGX X W (.Tuple es k pos) is (xTupG n t) := let ⟨_, p, q⟩ := h; ⟨_, pg_tup hc p hn hst, rd_tupG q⟩
end

def xTup (t : TAX) : TX := fun G O Q E => t G O (fun ds O1 => Q (.tup ds) O1) E
def xLst (t : TAX) : TX := fun G O Q E => t G O (fun ds O1 => Q (.lst ds) O1) E
section
variable {K : PySem.W.Frag} {W : WX}
theorem stp_new {al : AL} {H : Hp} {p : Addr} {o : HO} (hl : ∀ a, a ∈ fp al → H a ≠ none) (h : H p = none) : Stp al H al (upd H p o) := by
  refine Stp.mk' (fun _ _ h => .inl h) (fun _ h => .inl h) (fun a u hn e => ?_) (fun a ha => ?_) rfl ( fun a ha => upd_ne fun e => hl a (List.mem_append_left _ ha) (by rw [e]; exact h))
  · rw [upd_ne (ne_of_none e h)]; exact e
  · by_cases e : a = p
    · subst e; rw [upd_same]; simp
    · rw [upd_ne e]; exact ha
theorem RpN.mono0 {al al' : AL} {H H' : Hp} {ns : List Str} {vs : List (Str × V)} {ds : List D} (r : RpN K al H ns vs ds) (s : Stp0 al H al' H') : RpN K al' H' ns vs ds := ⟨r.1, r.2.mono0 s⟩
theorem XFs.mono0 {al al' : AL} {H H' : Hp} (s : Stp0 al H al' H') {d : Option Addr} {i : Nat} {fs : List D} (h : XFs K al H d i fs) : XFs K al' H' d i fs := by
  rcases h with h | ⟨dd, vs, e, hn, hd, hr⟩
  · exact .inl h
  · refine .inr ⟨dd, vs, e, fun hm => ?_, s.keep _ _ hn hd, hr.mono0 s⟩
    rcases s.new dd hm with z | z
    · exact hn z
    · rw [hd] at z; cases z
theorem CellOk.mono0 {al al' : AL} {H H' : Hp} (s : Stp0 al H al' H') {c : Cell} {o : Option (Addr × Option Addr)} (hk : ∀ a ∈ fpo o, ∀ u, H a = some u → H' a = some u) (h : CellOk K al H c o) : CellOk K al' H' c o := by
  cases c with
  | dead => trivial
  | lst ds =>
    match o, h with
    | some (a, none), h =>
      obtain ⟨xs, h1, h2, h3⟩ := h
      exact ⟨xs, hk a (by simp [fpo]) _ h1, h2, h3.mono0 s⟩
  | dK ds =>
    match o, h with
    | some (a, none), h =>
      obtain ⟨xs, h1, h2⟩ := h
      exact ⟨xs, hk a (by simp [fpo]) _ h1, h2.mono0 s⟩
  | dT ds =>
    match o, h with
    | some (a, none), h =>
      obtain ⟨xs, h1, h2⟩ := h
      exact ⟨xs, hk a (by simp [fpo]) _ h1, h2.mono0 s⟩
  | fzK _ _ _ =>
    match o, h with
    | some (a, none), h => exact ⟨hk a (by simp [fpo]) _ h.1, h.2.mono0 s⟩
  | fzT _ _ _ =>
    match o, h with
    | some (a, none), h => exact ⟨hk a (by simp [fpo]) _ h.1, h.2.mono0 s⟩
  | ins C fs =>
    match o, h with
    | some (a, some b), h =>
      obtain ⟨xs, h1, h2, h3⟩ := h
      exact ⟨xs, hk a (by simp [fpo]) _ h1, hk b (by simp [fpo]) _ h2, h3.mono0 s⟩
  | pen =>
    match o, h with
    | some (a, none), h =>
      obtain ⟨p, q, h1, h2⟩ := h
      exact ⟨p, q, hk a (by simp [fpo]) _ h1, h2⟩
  | tab q =>
    match o, h with
    | some (a, none), h =>
      obtain ⟨h0, ps, h1, h2, h3⟩ := h
      refine ⟨h0, ps, hk a (by simp [fpo]) _ h1, h2, fun pos cv hcv => ?_⟩
      obtain ⟨c, e, hn, hc⟩ := h3 pos cv hcv
      obtain ⟨z1, z2⟩ := s.rdX hn hc
      exact ⟨c, e, z1, z2⟩
  | exn C fs =>
    match o, h with
    | some (a, none), h =>
      obtain ⟨d, h1, h2⟩ := h
      exact ⟨d, hk a (by simp [fpo]) _ h1, h2.mono0 s⟩
  | deck =>
    match o, h with
    | some (a, some b), h =>
      obtain ⟨ns, t, n, h1, h2, h3⟩ := h
      exact ⟨ns, t, n, hk a (by simp [fpo]) _ h1, hk b (by simp [fpo]) _ h2, h3⟩
theorem CellOk.mono {al al' : AL} {H H' : Hp} (s : Stp al H al' H') {c : Cell} {o : Option (Addr × Option Addr)} (hk : ∀ a ∈ fpo o, ∀ u, H a = some u → H' a = some u) (h : CellOk K al H c o) : CellOk K al' H' c o := h.mono0 s.toStp0 hk
theorem nt_keep {al : AL} {H H' : Hp} {O : Om} (rel : Rel K al H O) (hk : ∀ a u, H a = some u → H' a = some u) : ∀ a, a ∈ fp al → ∀ xs : List V, H' a ≠ some (.tup xs) := fun a ha xs e => by
  cases q : H a with
  | none => exact rel.live a ha q
  | some u =>
    have z := hk a u q
    rw [z] at e
    cases e
    exact rel.nt a ha xs q
theorem nt_upd {al : AL} {H : Hp} {O : Om} {p : Addr} {o : HO} (rel : Rel K al H O) (ho : ∀ xs : List V, o ≠ .tup xs) : ∀ a, a ∈ fp al → ∀ xs : List V, upd H p o a ≠ some (.tup xs) := fun a ha xs e => by
  by_cases z : a = p
  · subst z; rw [upd_same] at e; cases e; exact ho _ rfl
  · rw [upd_ne z] at e; exact rel.nt a ha xs e
theorem Rel.keep {al : AL} {H H' : Hp} {O : Om} (rel : Rel K al H O) (s : Stp al H al H') (hk : ∀ a u, H a = some u → H' a = some u) : Rel K al H' O :=
  ⟨rel.len, rel.nd, fun a ha => s.there a (rel.live a ha), nt_keep rel hk, fun k c h => let ⟨o, e, q⟩ := rel.ok k c h; ⟨o, e, q.mono s fun a _ u => hk a u⟩⟩
theorem upd_keep {H : Hp} {p : Addr} {o : HO} (h : H p = none) : ∀ a u, H a = some u → upd H p o a = some u := fun a u e => by
  rw [upd_ne (ne_of_none e h)]; exact e
theorem Rel.fresh {al : AL} {H : Hp} {O : Om} {p : Addr} (rel : Rel K al H O) (h : H p = none) : p ∉ fp al := fun hm => rel.live p hm h
theorem new_tup {al : AL} {H : Hp} {O : Om} {p : Addr} {xs : List V} {ds : List D} (rel : Rel K al H O) (h : H p = none) (r : RpA K al H xs ds) (hl : xs.length ≤ sizeLine) : Rp K al (upd H p (.tup xs)) (.ref p) (.tup ds) :=
  .tup ⟨rel.fresh h, upd_same⟩ hl (r.mono (stp_new rel.live h))
theorem new_lst {al : AL} {H : Hp} {O : Om} {p : Addr} {xs : List V} {ds : List D} (rel : Rel K al H O) (h : H p = none) (r : RpA K al H xs ds) (hl : xs.length ≤ sizeLine) : Rp K al (upd H p (.lst xs)) (.ref p) (.lst ds) :=
  .lst (.inl ⟨rel.fresh h, .inl upd_same⟩) hl (r.mono (stp_new rel.live h))
theorem Rel.new {al : AL} {H : Hp} {O : Om} {p : Addr} {o : HO} (rel : Rel K al H O) (h : H p = none) : Rel K al (upd H p o) O := rel.keep (stp_new rel.live h) (upd_keep h)
theorem rd_tup {n : Nat} {ta : TA} {t : TAX} (h : RdA K W n ta t) (hn : n ≤ sizeLine) : RdE K W (tTup ta) (xTup t) := by
  intro al H σ G O Q E R rel env q hq he
  refine h al H σ G O _ E _ rel env q (fun al1 H1 O1 xs ds s1 rel1 r1 hl q1 => ?_) he
  have hx : xs.length ≤ sizeLine := by rw [r1.length, hl]; exact hn
  exact ⟨hx, fun p hp => hq _ _ _ _ _ (s1.trans (stp_new rel1.live hp)) (rel1.new hp) (new_tup rel1 hp r1 hx) q1⟩
theorem rd_lst {n : Nat} {ta : TA} {t : TAX} (h : RdA K W n ta t) (hn : n ≤ sizeLine) : RdE K W (tLst ta) (xLst t) := by
  intro al H σ G O Q E R rel env q hq he
  refine h al H σ G O _ E _ rel env q (fun al1 H1 O1 xs ds s1 rel1 r1 hl q1 => ?_) he
  have hx : xs.length ≤ sizeLine := by rw [r1.length, hl]; exact hn
  exact ⟨hx, fun p hp => hq _ _ _ _ _ (s1.trans (stp_new rel1.live hp)) (rel1.new hp) (new_lst rel1 hp r1 hx) q1⟩
end
section
variable {X : Cx} {W : WX} {es : List Expr} {pos : Pos}
theorem px_tup {k} {t : TAX} (h : PAX X W es t) (hn : decide (es.length ≤ 1000) = true := by rfl) : PX X W (.Tuple es k pos) (xTup t) := let ⟨_, p, q⟩ := h; ⟨_, pe_tup p, rd_tup q (Nat.le_trans (of_decide_eq_true hn) (by decide))⟩
theorem px_lst {t : TAX} (h : PAX X W es t) (hn : decide (es.length ≤ 1000) = true := by rfl) : PX X W (.List es pos) (xLst t) := let ⟨_, p, q⟩ := h; ⟨_, pe_lst p, rd_lst q (Nat.le_trans (of_decide_eq_true hn) (by decide))⟩
end

abbrev SpX := List D → Om → QX → EX → Prop
def spX (K : PySem.W.Frag) (T : SpX) : Sp := fun vs H Q E => ∃ (al : AL) (O : Om) (ds : List D) (Qx : QX) (Ex : EX), Rel K al H O ∧ RpA K al H vs ds ∧ T ds O Qx Ex ∧
  (∀ al' H' O' v d, Stp al H al' H' → Rel K al' H' O' → Rp K al' H' v d → Qx d O' → Q v H') ∧
  (∀ al' H' O' x cls dd, Stp al H al' H' → Rel K al' H' O' → ExR K al' H' x cls dd → Ex x O' → E cls dd H')
def xFn (T : SpX) (t : TAX) : TX := fun G O Q E => t G O (fun ds O1 => T ds O1 Q E) E
section
variable {K : PySem.W.Frag} {W : WX}
theorem rd_fn {n : Nat} {T : SpX} {ta : TA} {t : TAX} (h : RdA K W n ta t) : RdE K W (tCallS (spX K T) (WE W) ta) (xFn T t) := by
  intro al H σ G O Q E R rel env q hq he
  refine h al H σ G O _ E _ rel env q (fun al1 H1 O1 xs ds s1 rel1 r1 hl q1 => ?_) he
  exact ⟨al1, O1, ds, Q, E, rel1, r1, q1, fun _ _ _ _ _ s' => hq _ _ _ _ _ (s1.trans s'), fun _ _ _ _ _ _ s' => he _ _ _ _ _ _ (s1.trans s')⟩
end
section
variable {X : Cx} {W : WX} {k : Nat} {f : Addr} {fd : FuncData} {ps : List Str} {T : SpX} {x : Str} {p pos : Pos} {e : Expr} {es : List Expr}
abbrev FnX (P : Program) (w : World) (K : PySem.W.Frag) (mg : Str → Option Value) (base : Heap) (k : Nat) (f : Addr) (fd : FuncData) (ps : List Str) (T : SpX) : Prop := FnOk P w K mg base (L2.CX P w) k f fd ps (spX K T)
theorem px_fn {t : TAX} (F : FnX X.prog X.w X.K X.mg X.base k f fd ps T) (hr : Room k X.A) (hg : Gl X x) (hm : X.mg x = some (.ref f)) (hk : PySem.W.keepIn X.K (.ref f) = true) (hb : Binds X.K fd ps []) (tk : Takes X W)
    (ha : PAX X W (e :: es) t) (hdb : (x == ("__debug__" : Str)) = false := by decide) (he : starEach (e :: es) X.env = (false, eval e X.env) :: starEach es X.env := by rfl) (hpl : (backTo pos (starEach es X.env)).any (·.1) = false := by rfl) :
    PX X W (.Call (.Name x p) (e :: es) [] pos) (xFn T t) := let ⟨_, p, q⟩ := ha; ⟨_, pe_callS F hr hg hm hk hb (fun σ => passAt tk σ) p hdb he hpl, rd_fn q⟩
end
abbrev W0 (E : XK) : WX := fun cls d _ H => E cls d H
mutual
def D.cl (n : Nat) : D → Bool
  | .tup ds => D.cls n ds
  | .lst ds => D.cls n ds
  | .own k => decide (k < n)
  | _ => true
def D.cls (n : Nat) : List D → Bool
  | [] => true
  | d :: ds => D.cl n d && D.cls n ds
end
def Cell.cl (n : Nat) : Cell → Bool
  | .lst ds => D.cls n ds
  | .dK kvs => D.cls n (kvs.map (·.2))
  | .dT kvs => D.cls n (kvs.map (·.2))
  | .fzK _ _ kvs => D.cls n (kvs.map (·.2))
  | .fzT _ _ kvs => D.cls n (kvs.map (·.2))
  | .ins _ ds => D.cls n ds
  | .exn _ ds => D.cls n ds
  | _ => true
def AL.cut (al : AL) (n : Nat) : AL := ⟨al.hid, al.l.take n⟩
def AL.setN (al : AL) (k : Nat) (o : Option (Addr × Option Addr)) : AL := ⟨al.hid, al.l.set k o⟩
def AL.add (al : AL) (o : Option (Addr × Option Addr)) : AL := ⟨al.hid, al.l ++ [o]⟩
def OmCl (O : Om) : Prop := ∀ c ∈ O, c.cl O.length = true
section
variable {P : Program} {w : World} {K : PySem.W.Frag} {mg : Str → Option Value} {base : Heap}
def startG (N : List Str) (ds : List D) : Gam := ds.map some ++ List.replicate (N.length - ds.length) none
theorem env_start {al : AL} {H : Hp} {N : List Str} {vs : List V} {ds : List D} (r : RpA K al H vs ds) : EnvR K al H (L2.start N vs) (startG N ds) := by
  have hl := r.length
  refine ⟨by simp [L2.start, startG, hl], fun i d h => ?_⟩
  unfold startG at h
  unfold L2.start
  by_cases hi : i < ds.length
  · rw [List.getElem?_append_left (by simpa using hi), List.getElem?_map] at h
    cases e : ds[i]? with
    | none => rw [e] at h; cases h
    | some d' =>
      rw [e] at h
      cases h
      obtain ⟨v, h1, h2⟩ := r.get e
      exact ⟨v, by rw [List.getElem?_append_left (by simpa [hl] using hi), List.getElem?_map, h1]; rfl, h2⟩
  · rw [List.getElem?_append_right (by simpa using Nat.le_of_not_lt hi), List.getElem?_replicate] at h
    split at h <;> cases h
section
variable {al : AL} {H : Hp}
mutual
theorem Rp.cl : ∀ {v : V} {d : D}, Rp K al H v d → d.cl al.l.length = true
  | _, _, .non => rfl
  | _, _, .bl _ => rfl
  | _, _, .int _ => rfl
  | _, _, .adr _ => rfl
  | _, _, .str _ _ => rfl
  | _, _, .tup _ _ h => RpA.cl h
  | _, _, .lst _ _ h => RpA.cl h
  | _, _, .own h _ => decide_eq_true (List.getElem?_eq_some_iff.mp h).1
theorem RpA.cl : ∀ {vs : List V} {ds : List D}, RpA K al H vs ds → D.cls al.l.length ds = true
  | _, _, .nil => rfl
  | _, _, .cons h t => by
    show (D.cl _ _ && D.cls _ _) = true
    rw [Rp.cl h, RpA.cl t]
    rfl
end
theorem Cell.cl_of {c : Cell} {o : Option (Addr × Option Addr)} (h : CellOk K al H c o) : c.cl al.l.length = true := by
  match c, o, h with
  | .dead, _, _ => rfl
  | .deck, _, _ => rfl
  | .pen, _, _ => rfl
  | .tab _, _, _ => rfl
  | .lst ds, some (a, none), ⟨_, _, _, h⟩ => exact h.cl
  | .dK ds, some (a, none), ⟨_, _, h⟩ => exact h.2.cl
  | .dT ds, some (a, none), ⟨_, _, h⟩ => exact h.2.cl
  | .fzK _ _ ds, some (a, none), ⟨_, h⟩ => exact h.2.cl
  | .fzT _ _ ds, some (a, none), ⟨_, h⟩ => exact h.2.cl
  | .ins C fs, some (a, some b), ⟨_, _, _, h⟩ => exact h.2.cl
  | .exn C fs, some (a, none), ⟨_, _, h⟩ =>
    rcases h with ⟨h, _⟩ | ⟨_, _, _, _, _, h⟩
    · subst h; rfl
    · exact h.2.cl
theorem Rel.cl {O : Om} (rel : Rel K al H O) : OmCl O := fun c hc => by
  obtain ⟨k, hk⟩ := List.getElem?_of_mem hc
  obtain ⟨o, _, q⟩ := rel.ok k c hk
  rw [← rel.len]
  exact Cell.cl_of q
theorem fpl_take {l : List (Option (Addr × Option Addr))} {a : Addr} (n : Nat) (h : a ∈ fpl (l.take n)) : a ∈ fpl l := by
  obtain ⟨o, h1, h2⟩ := List.mem_flatMap.mp h
  exact List.mem_flatMap.mpr ⟨o, List.mem_of_mem_take h1, h2⟩
theorem fp_take {a : Addr} (n : Nat) (h : a ∈ fp (al.cut n)) : a ∈ fp al := by
  rcases List.mem_append.mp h with h | h
  · exact List.mem_append_left _ h
  · exact List.mem_append_right _ (fpl_take n h)
theorem cut_get {n k : Nat} (h : k < n) : (al.cut n).l[k]? = al.l[k]? := List.getElem?_take_of_lt h
mutual
theorem Rp.trunc (n : Nat) : ∀ {v : V} {d : D}, Rp K al H v d → d.cl n = true → Rp K (al.cut n) H v d
  | _, _, .non, _ => .non
  | _, _, .bl b, _ => .bl b
  | _, _, .int i, _ => .int i
  | _, _, .adr a, _ => .adr a
  | _, _, .str x h, _ => .str x h
  | _, _, .tup h hl hr, hc => .tup ⟨fun m => h.1 (fp_take n m), h.2⟩ hl (RpA.trunc n hr hc)
  | _, _, .lst h hl hr, hc => .lst (h.elim (fun z => .inl ⟨fun m => z.1 (fp_take n m), z.2⟩) .inr) hl (RpA.trunc n hr hc)
  | _, _, .own h hv, hc => .own (by rw [cut_get (of_decide_eq_true hc)]; exact h) hv
theorem RpA.trunc (n : Nat) : ∀ {vs : List V} {ds : List D}, RpA K al H vs ds → D.cls n ds = true → RpA K (al.cut n) H vs ds
  | _, _, .nil, _ => .nil
  | _, _, .cons h t, hc => by
    have hc' : (D.cl n _ && D.cls n _) = true := hc
    rw [Bool.and_eq_true] at hc'
    exact .cons (Rp.trunc n h hc'.1) (RpA.trunc n t hc'.2)
end
theorem CellOk.trunc (n : Nat) {c : Cell} {o : Option (Addr × Option Addr)} (h : CellOk K al H c o) (hc : c.cl n = true) : CellOk K (al.cut n) H c o := by
  match c, o, h with
  | .dead, _, _ => trivial
  | .deck, some (a, some b), h => exact h
  | .pen, some (a, none), h => exact h
  | .tab q, some (a, none), h =>
    obtain ⟨h0, ps, h1, h2, h3⟩ := h
    refine ⟨h0, ps, h1, h2, fun pos cv hcv => ?_⟩
    obtain ⟨c, e, hn, hc⟩ := h3 pos cv hcv
    exact ⟨c, e, fun m => hn (fp_take n m), hc⟩
  | .lst ds, some (a, none), ⟨xs, h1, h2, h⟩ => exact ⟨xs, h1, h2, h.trunc n hc⟩
  | .dK ds, some (a, none), ⟨xs, h1, h⟩ => exact ⟨xs, h1, h.1, h.2.trunc n hc⟩
  | .dT ds, some (a, none), ⟨xs, h1, h⟩ => exact ⟨xs, h1, h.1, h.2.trunc n hc⟩
  | .fzK _ _ ds, some (a, none), ⟨h1, h⟩ => exact ⟨h1, h.1, h.2.trunc n hc⟩
  | .fzT _ _ ds, some (a, none), ⟨h1, h⟩ => exact ⟨h1, h.1, h.2.trunc n hc⟩
  | .ins C fs, some (a, some b), ⟨xs, h1, h2, h⟩ => exact ⟨xs, h1, h2, h.1, h.2.trunc n hc⟩
  | .exn C fs, some (a, none), ⟨d, h1, h⟩ =>
    refine ⟨d, h1, ?_⟩
    rcases h with h | ⟨dd, vs, e, hn, hd, h⟩
    · exact .inl h
    · exact .inr ⟨dd, vs, e, fun m => hn (fp_take n m), hd, h.1, h.2.trunc n hc⟩
theorem Rel.trunc {O G : Om} (rel : Rel K al H (O ++ G)) (hc : OmCl O) : Rel K (al.cut O.length) H O := by
  refine ⟨?_, ?_, fun a ha => rel.live a (fp_take _ ha), fun a ha => rel.nt a (fp_take _ ha), fun k c h => ?_⟩
  · have e := rel.len
    rw [List.length_append] at e
    show (al.l.take O.length).length = _
    rw [List.length_take]
    omega
  · have nd := rel.nd
    unfold fp at nd
    rw [← List.take_append_drop O.length al.l, show fpl (al.l.take O.length ++ al.l.drop O.length) = fpl (al.l.take O.length) ++ fpl (al.l.drop O.length) from List.flatMap_append, ← List.append_assoc] at nd
    exact (List.nodup_append.mp nd).1
  · have hk : k < O.length := (List.getElem?_eq_some_iff.mp h).1
    obtain ⟨o, e, q⟩ := rel.ok k c (by rw [List.getElem?_append_left hk]; exact h)
    exact ⟨o, by rw [cut_get hk]; exact e, q.trunc _ (hc c (List.mem_of_getElem? h))⟩
theorem Stp.trunc {al0 : AL} {H0 : Hp} (s : Stp al0 H0 al H) {n : Nat} (hn : n = al0.l.length) : Stp al0 H0 (al.cut n) H := by
  subst hn
  refine Stp.mk' (fun k o h => ?_) (fun a ha => s.new a (fp_take _ ha)) s.keep s.there s.hid s.same
  rw [cut_get (List.getElem?_eq_some_iff.mp h).1]
  exact s.old k o h
end
def Rt (n : Nat) (Q : QX) : QX := fun d O' => Q d O' ∨ ∃ O1 G, O' = O1 ++ G ∧ O1.length = n ∧ d.cl n = true ∧ OmCl O1 ∧ Q d O1
theorem fnx_gen {x qual : Str} {st : Stmt} {f : Addr} {fd : FuncData} {N ps : List Str} {k : Nat} {T : SpX}
    (OK : ∀ (sp : Sp), (∀ vs H Q E, sp vs H Q E → vs.length = ps.length) → (∀ (cdv : Value) (A : Around) (outer : List Env) (s : Shared) (H : Hp) (vs : List V) (Q : VK) (E : XK), Room k (A.deeper (envOfC qual (defScope st) s.heap.objs.size f cdv)) → sp vs H Q E →
      ∃ t, PSs (cxOf (L2.CX P w) P w K mg base N qual (defScope st) f cdv A outer s H E) (defBody st) t ∧ t { nx := fun _ H' => Q .non H', rt := Q } (L2.start N vs) H) → FnOk P w K mg base (L2.CX P w) (k + 1) f fd ps sp) (len : ∀ ds O Q E, T ds O Q E → ds.length = ps.length) (t : TSX)
    (hb : ∀ (cdv : Value) (A : Around) (outer : List Env) (s : Shared) (H : Hp) (E : XK), Room k (A.deeper (envOfC qual (defScope st) s.heap.objs.size f cdv)) → PSsX (cxOf (L2.CX P w) P w K mg base N qual (defScope st) f cdv A outer s H E) (W0 E) (defBody st) t)
    (hp : ∀ ds O Q E, T ds O Q E → OmCl O → t { nx := fun _ O' => Rt O.length Q .non O', rt := Rt O.length Q, ex := fun x _ O' => E x O' } (startG N ds) O) : FnX P w K mg base (k + 1) f fd ps T := by
  refine OK _ (fun vs H Q E h => ?_) (fun cdv A outer s H vs Q E hr h => ?_)
  · obtain ⟨al, O, ds, Qx, Ex, rel, r, h, _⟩ := h
    rw [r.length]
    exact len _ _ _ _ h
  · obtain ⟨al, O, ds, Qx, Ex, rel, r, h, hq, he⟩ := h
    obtain ⟨ts, p1, p2⟩ := hb cdv A outer s H E hr
    have fin : ∀ al' H' O' v d, Stp al H al' H' → Rel K al' H' O' → Rp K al' H' v d → Rt O.length Qx d O' → Q v H' := fun al' H' O' v d s' rel' r' q' => by
      rcases q' with q' | ⟨O1, G, rfl, hn, hc, hO, q'⟩
      · exact hq al' H' O' v d s' rel' r' q'
      · rw [← hn] at hc
        exact hq (al'.cut O1.length) H' O1 v d (s'.trunc (by rw [hn, rel.len])) (rel'.trunc hO) (r'.trunc _ hc) q'
    refine ⟨ts, p1, p2 al H (L2.start N vs) (startG N ds) O _ _ rel (env_start r) (hp ds O Qx Ex h rel.cl) ⟨?_, ?_, ?_, ?_, ?_⟩⟩
    · exact fun al' H' O' σ' G' s' rel' _ q' => fin al' H' O' .non .non s' rel' .non q'
    · exact fin
    · exact fun _ _ _ _ _ _ _ _ z => z.elim
    · exact fun _ _ _ _ _ _ _ _ z => z.elim
    · exact fun al' H' O' σ' G' x cls dd s' rel' _ r' q' => he al' H' O' x cls dd s' rel' r' q'
theorem fnx_of {x qual : Str} {st : Stmt} {f : Addr} {fd : FuncData} {N ps : List Str} {k : Nat} {T : SpX} (F : Fun K x qual st f fd) (S : FnScope N ps (defScope st)) (len : ∀ ds O Q E, T ds O Q E → ds.length = ps.length) (t : TSX)
    (hb : ∀ (cdv : Value) (A : Around) (outer : List Env) (s : Shared) (H : Hp) (E : XK), Room k (A.deeper (envOfC qual (defScope st) s.heap.objs.size f cdv)) → PSsX (cxOf (L2.CX P w) P w K mg base N qual (defScope st) f cdv A outer s H E) (W0 E) (defBody st) t)
    (hp : ∀ ds O Q E, T ds O Q E → OmCl O → t { nx := fun _ O' => Rt O.length Q .non O', rt := Rt O.length Q, ex := fun x _ O' => E x O' } (startG N ds) O) : FnX P w K mg base (k + 1) f fd ps T :=
  fnx_gen (x := x) (fun sp l b => F.okX S l b) len t hb hp
theorem fnx_ofD {x qual : Str} {st : Stmt} {f : Addr} {fd : FuncData} {N ps : List Str} {k : Nat} {T : SpX} {dvs : List V} {kws : List (Str × V)} (F : FunD K x qual (defArgs st) (defBody st) (defScope st) dvs kws f fd) (S : FnScope N ps (defScope st)) (len : ∀ ds O Q E, T ds O Q E → ds.length = ps.length) (t : TSX)
    (hb : ∀ (cdv : Value) (A : Around) (outer : List Env) (s : Shared) (H : Hp) (E : XK), Room k (A.deeper (envOfC qual (defScope st) s.heap.objs.size f cdv)) → PSsX (cxOf (L2.CX P w) P w K mg base N qual (defScope st) f cdv A outer s H E) (W0 E) (defBody st) t)
    (hp : ∀ ds O Q E, T ds O Q E → OmCl O → t { nx := fun _ O' => Rt O.length Q .non O', rt := Rt O.length Q, ex := fun x _ O' => E x O' } (startG N ds) O) : FnX P w K mg base (k + 1) f fd ps T :=
  fnx_gen (x := x) (fun sp l b => F.ok S l b) len t hb hp
end

def lstK (c : Cell) (Q : List D → Prop) : Prop := match c with
  | .lst ds => Q ds
  | _ => False
theorem lstK.ex {o : Option Cell} {Q : List D → Prop} (h : optK o fun c => lstK c Q) : ∃ ds, o = some (.lst ds) ∧ Q ds := by
  obtain ⟨c, e, h⟩ := h.ex
  cases c with
  | lst ds => exact ⟨ds, e, h⟩
  | _ => exact (show False from h).elim
def ownK (d : D) (Q : Nat → Prop) : Prop := match d with
  | .own k => Q k
  | _ => False
theorem ownK.ex {d : D} {Q : Nat → Prop} (h : ownK d Q) : ∃ k, d = .own k ∧ Q k := by
  cases d with
  | own k => exact ⟨k, rfl, h⟩
  | _ => exact (show False from h).elim
def xFrz (i : Nat) : TX := fun G O Q _ => gv G i fun d => ownK d fun k => optK O[k]? fun c => lstK c fun ds => Q (.lst ds) (O.set k .dead)
def xLstO (t : TAX) : TX := fun G O Q E => t G O (fun ds O1 => Q (.own O1.length) (O1 ++ [.lst ds])) E
section
variable {K : PySem.W.Frag} {W : WX} {al : AL} {H : Hp} {O : Om}
theorem fp_setN {k : Nat} {o o' : Option (Addr × Option Addr)} (h : al.l[k]? = some o) : fp (al.setN k o') = al.hid ++ (fpl (al.l.take k) ++ (fpo o' ++ fpl (al.l.drop (k + 1)))) := by
  have hk : k < al.l.length := (List.getElem?_eq_some_iff.mp h).1
  have e1 : (al.l.set k o') = al.l.take k ++ (o' :: al.l.drop (k + 1)) := by rw [List.set_eq_take_append_cons_drop, if_pos hk]
  show al.hid ++ fpl (al.l.set k o') = _
  rw [e1]
  simp [fpl, List.flatMap_append, List.flatMap_cons]
theorem setN_self {k : Nat} {o : Option (Addr × Option Addr)} (h : al.l[k]? = some o) : al.setN k o = al := by
  obtain ⟨hid, l⟩ := al
  show AL.mk hid (l.set k o) = _
  have h' : l[k]? = some o := h
  have hk : k < l.length := (List.getElem?_eq_some_iff.mp h').1
  rw [← (List.getElem?_eq_some_iff.mp h').2, List.set_getElem_self]
theorem fp_cut {k : Nat} {o : Option (Addr × Option Addr)} (h : al.l[k]? = some o) : fp al = al.hid ++ (fpl (al.l.take k) ++ (fpo o ++ fpl (al.l.drop (k + 1)))) := by
  have e := fp_setN (o' := o) h
  rwa [setN_self h] at e
theorem fp_set_sub {k : Nat} {a : Addr} (h : a ∈ fp (al.setN k none)) : a ∈ fp al := by
  rcases List.mem_append.mp h with h | h
  · exact List.mem_append_left _ h
  · obtain ⟨o, h1, h2⟩ := List.mem_flatMap.mp h
    rcases List.mem_or_eq_of_mem_set h1 with z | z
    · exact List.mem_append_right _ (List.mem_flatMap.mpr ⟨o, z, h2⟩)
    · subst z; cases h2
theorem fp_out {k : Nat} {o : Option (Addr × Option Addr)} (nd : (fp al).Nodup) (h : al.l[k]? = some o) {a : Addr} (ha : a ∈ fpo o) : a ∉ fp (al.setN k none) := by
  rw [fp_cut h] at nd
  rw [fp_setN h]
  have n0 := List.nodup_append.mp nd
  have n1 := List.nodup_append.mp n0.2.1
  have n2 := List.nodup_append.mp n1.2.1
  intro hm
  rcases List.mem_append.mp hm with hm | hm
  · exact n0.2.2 a hm a (List.mem_append_right _ (List.mem_append_left _ ha)) rfl
  · rcases List.mem_append.mp hm with hm | hm
    · exact n1.2.2 a hm a (List.mem_append_left _ ha) rfl
    · rcases List.mem_append.mp hm with hm | hm
      · exact absurd hm (by simp [fpo])
      · exact n2.2.2 a ha a hm rfl
theorem fp_other {j k : Nat} {o o' : Option (Addr × Option Addr)} (nd : (fp al).Nodup) (h : al.l[k]? = some o) (h' : al.l[j]? = some o') (hjk : j ≠ k) {a : Addr} (ha : a ∈ fpo o) : a ∉ fpo o' := by
  intro ha'
  refine fp_out nd h ha (List.mem_append_right _ (List.mem_flatMap.mpr ⟨o', ?_, ha'⟩))
  exact List.mem_of_getElem? (i := j) (by show (al.l.set k none)[j]? = _; rw [List.getElem?_set_ne (Ne.symm hjk)]; exact h')
theorem stp_frz (k : Nat) : Stp al H (al.setN k none) H := by
  refine Stp.mk' (fun j o h => ?_) (fun a ha => .inl (fp_set_sub ha)) (fun _ _ _ h => h) (fun _ h => h) rfl (fun _ _ => rfl)
  by_cases e : j = k
  · subst e
    right
    exact List.getElem?_set_self (List.getElem?_eq_some_iff.mp h).1
  · left
    show (al.l.set k none)[j]? = _
    rw [List.getElem?_set_ne (Ne.symm e)]
    exact h
theorem Rel.frz (rel : Rel K al H O) {k : Nat} {o : Option (Addr × Option Addr)} (h : al.l[k]? = some o) : Rel K (al.setN k none) H (O.set k .dead) := by
  refine ⟨by show (al.l.set k none).length = _; rw [List.length_set, List.length_set]; exact rel.len, ?_, fun a ha => rel.live a (fp_set_sub ha), fun a ha => rel.nt a (fp_set_sub ha), fun j c hc => ?_⟩
  · have nd := rel.nd
    rw [fp_cut h] at nd
    rw [fp_setN h]
    have n0 := List.nodup_append.mp nd
    have n1 := List.nodup_append.mp n0.2.1
    have n2 := List.nodup_append.mp n1.2.1
    have e : fpo none = [] := rfl
    rw [e, List.nil_append]
    refine List.nodup_append.mpr ⟨n0.1, List.nodup_append.mpr ⟨n1.1, n2.2.1, fun a ha b hb => n1.2.2 a ha b (List.mem_append_right _ hb)⟩, fun a ha b hb => n0.2.2 a ha b ?_⟩
    rcases List.mem_append.mp hb with hb | hb
    · exact List.mem_append_left _ hb
    · exact List.mem_append_right _ (List.mem_append_right _ hb)
  · by_cases e : j = k
    · subst e
      have hj : j < O.length := by
        have := (List.getElem?_eq_some_iff.mp hc).1
        rwa [List.length_set] at this
      rw [List.getElem?_set_self hj] at hc
      cases hc
      exact ⟨none, List.getElem?_set_self (by rw [rel.len]; exact hj), trivial⟩
    · rw [List.getElem?_set_ne (Ne.symm e)] at hc
      obtain ⟨o', e1, q⟩ := rel.ok j c hc
      exact ⟨o', by show (al.l.set k none)[j]? = _; rw [List.getElem?_set_ne (Ne.symm e)]; exact e1, q.mono (stp_frz k) fun _ _ _ h => h⟩
theorem rd_frz (i : Nat) : RdE K W (tVar i) (xFrz i) := by
  intro al H σ G O Q E R rel env h hq _
  obtain ⟨d, e, h⟩ := gv.ex h
  obtain ⟨k, rfl, h⟩ := h.ex
  obtain ⟨ds, hk, q⟩ := lstK.ex h
  obtain ⟨v, e1, r⟩ := env.get i _ e
  obtain ⟨a, xs, rfl, h1, h2, h3, h4⟩ := r.ownL rel hk
  refine ⟨_, e1, hq _ _ _ _ _ (stp_frz k) (rel.frz h1) (.lst (.inl ⟨fp_out rel.nd h1 (by simp [fpo]), .inl h2⟩) h3 (h4.mono (stp_frz k))) q⟩
theorem fp_add {o : Option (Addr × Option Addr)} : fp (al.add o) = fp al ++ fpo o := by
  simp [fp, fpl, AL.add, List.flatMap_append, List.append_assoc]
theorem add_get {o : Option (Addr × Option Addr)} {k : Nat} (h : k < al.l.length) : (al.add o).l[k]? = al.l[k]? := List.getElem?_append_left h
theorem add_new {o : Option (Addr × Option Addr)} : (al.add o).l[al.l.length]? = some o := by
  show (al.l ++ [o])[al.l.length]? = _
  rw [List.getElem?_append_right (Nat.le_refl _), Nat.sub_self]; rfl
theorem stp_own {p : Addr} {o : HO} (hl : ∀ a, a ∈ fp al → H a ≠ none) (h : H p = none) : Stp al H (al.add (some (p, none))) (upd H p o) := by
  refine Stp.mk' (fun k o h => .inl ?_) (fun a ha => ?_) (stp_new hl h).keep (stp_new hl h).there rfl (stp_new hl h).same
  · rw [add_get (List.getElem?_eq_some_iff.mp h).1]; exact h
  · rw [fp_add] at ha
    rcases List.mem_append.mp ha with ha | ha
    · exact .inl ha
    · rw [List.mem_singleton.mp ha]; exact .inr h
theorem Rel.own (rel : Rel K al H O) {p : Addr} {o : HO} {c : Cell} (h : H p = none) (hc : CellOk K (al.add (some (p, none))) (upd H p o) c (some (p, none))) (ho : ∀ xs : List V, o ≠ .tup xs := by intro _ e; cases e) : Rel K (al.add (some (p, none))) (upd H p o) (O ++ [c]) := by
  have e1 : fp (al.add (some (p, none))) = fp al ++ [p] := fp_add
  refine ⟨by show (al.l ++ [_]).length = _; rw [List.length_append, List.length_append, rel.len]; rfl, ?_, fun a ha => ?_, fun a ha => ?_, fun k c' hk => ?_⟩
  · rw [e1]
    exact List.nodup_append.mpr ⟨rel.nd, by simp, fun a ha b hb => by rw [List.mem_singleton.mp hb]; intro z; subst z; exact rel.fresh h ha⟩
  · rw [e1] at ha
    rcases List.mem_append.mp ha with ha | ha
    · exact (stp_new rel.live h).there a (rel.live a ha)
    · rw [List.mem_singleton.mp ha, upd_same]; simp
  · rw [e1] at ha
    rcases List.mem_append.mp ha with ha | ha
    · exact nt_upd rel ho a ha
    · intro xs e
      rw [List.mem_singleton.mp ha, upd_same] at e
      cases e; exact ho _ rfl
  · by_cases hlt : k < O.length
    · rw [List.getElem?_append_left hlt] at hk
      obtain ⟨o', e, q⟩ := rel.ok k c' hk
      exact ⟨o', by rw [add_get (by rw [rel.len]; exact hlt)]; exact e, q.mono (stp_own rel.live h) fun a _ u => upd_keep h a u⟩
    · rw [List.getElem?_append_right (Nat.le_of_not_lt hlt)] at hk
      have hz : k - O.length = 0 := by
        have := (List.getElem?_eq_some_iff.mp hk).1
        simp at this; omega
      have hk2 : k = al.l.length := by rw [rel.len]; omega
      rw [hz] at hk
      cases hk
      exact ⟨_, by rw [hk2]; exact add_new, hc⟩
theorem own_new {H : Hp} {p : Addr} {hd : Option Addr} : Rp K (al.add (some (p, hd))) H (.ref p) (.own al.l.length) := .own add_new (fun q e => by cases e; rfl)
theorem rd_lstO {n : Nat} {ta : TA} {t : TAX} (h : RdA K W n ta t) (hn : n ≤ sizeLine) : RdE K W (tLst ta) (xLstO t) := by
  intro al H σ G O Q E R rel env q hq he
  refine h al H σ G O _ E _ rel env q (fun al1 H1 O1 xs ds s1 rel1 r1 hl q1 => ?_) he
  have hx : xs.length ≤ sizeLine := by rw [r1.length, hl]; exact hn
  refine ⟨hx, fun p hp => hq _ _ _ _ _ (s1.trans (stp_own rel1.live hp)) (rel1.own (c := .lst ds) hp ⟨xs, upd_same, hx, r1.mono (stp_own rel1.live hp)⟩) ?_ q1⟩
  rw [← rel1.len]
  exact own_new
theorem hid_out {k : Nat} {o : Option (Addr × Option Addr)} {a : Addr} (nd : (fp al).Nodup) (h : al.l[k]? = some o) (ha : a ∈ fpo o) : a ∉ al.hid := fun hm =>
  (List.nodup_append.mp nd).2.2 a hm a (List.mem_flatMap.mpr ⟨o, List.mem_of_getElem? h, ha⟩) rfl
theorem stp_set {k : Nat} {a : Addr} {hd : Option Addr} {u : HO} (nd : (fp al).Nodup) (h : al.l[k]? = some (some (a, hd))) : Stp al H al (upd H a u) := by
  have ha : a ∈ fpo (some (a, hd)) := by cases hd <;> simp [fpo]
  refine Stp.mk' (fun _ _ h => .inl h) (fun _ h => .inl h) (fun b o hn e => ?_) (fun b hb => ?_) rfl (fun b hb => upd_ne fun e => hid_out nd h ha (e ▸ hb))
  · rw [upd_ne (fun z => hn (by rw [z]; exact fp_mem h ha))]; exact e
  · by_cases e : b = a
    · subst e; rw [upd_same]; simp
    · rw [upd_ne e]; exact hb
theorem Rel.set (rel : Rel K al H O) {k : Nat} {a : Addr} {hd : Option Addr} {u : HO} {c : Cell} (h : al.l[k]? = some (some (a, hd))) (hc : CellOk K al (upd H a u) c (some (a, hd))) (hu : ∀ xs : List V, u ≠ .tup xs := by intro _ e; cases e) : Rel K al (upd H a u) (O.set k c) := by
  refine ⟨by rw [List.length_set]; exact rel.len, rel.nd, fun b hb => (stp_set rel.nd h).there b (rel.live b hb), nt_upd rel hu, fun j c' hj => ?_⟩
  by_cases e : j = k
  · subst e
    have hj' : j < O.length := by
      have := (List.getElem?_eq_some_iff.mp hj).1
      rwa [List.length_set] at this
    rw [List.getElem?_set_self hj'] at hj
    cases hj
    exact ⟨_, h, hc⟩
  · rw [List.getElem?_set_ne (Ne.symm e)] at hj
    obtain ⟨o', e1, q⟩ := rel.ok j c' hj
    refine ⟨o', e1, q.mono (stp_set rel.nd h) fun b hb w hw => ?_⟩
    rw [upd_ne (fun z => ?_)]
    · exact hw
    · subst z
      exact fp_other rel.nd h e1 e (by cases hd <;> simp [fpo]) hb
def AL.hide (al : AL) (p : Addr) : AL := ⟨p :: al.hid, al.l⟩
theorem fp_hide {p : Addr} : fp (al.hide p) = p :: fp al := rfl
theorem stp_hide {p : Addr} {o : HO} (h : H p = none) : Stp0 al H (al.hide p) (upd H p o) := by
  refine ⟨fun _ _ h => .inl h, fun a ha => ?_, fun a u hn e => upd_keep h a u e, fun a ha => ?_⟩
  · rw [fp_hide] at ha
    rcases List.mem_cons.mp ha with z | z
    · rw [z]; exact .inr h
    · exact .inl z
  · cases q : H a with
    | none => exact absurd q ha
    | some u => rw [upd_keep h a u q]; simp
theorem Rel.hide (rel : Rel K al H O) {p : Addr} {o : HO} (h : H p = none) (ho : ∀ xs : List V, o ≠ .tup xs := by intro _ e; cases e) : Rel K (al.hide p) (upd H p o) O := by
  refine ⟨rel.len, ?_, fun a ha => ?_, fun a ha => ?_, fun k c hk => ?_⟩
  · rw [fp_hide]; exact List.nodup_cons.mpr ⟨rel.fresh h, rel.nd⟩
  · rw [fp_hide] at ha
    rcases List.mem_cons.mp ha with z | z
    · rw [z, upd_same]; simp
    · exact (stp_hide (al := al) h).there a (rel.live a z)
  · rw [fp_hide] at ha
    rcases List.mem_cons.mp ha with z | z
    · intro xs e
      rw [z, upd_same] at e
      cases e; exact ho _ rfl
    · exact nt_upd rel ho a z
  · obtain ⟨o', e, q⟩ := rel.ok k c hk
    exact ⟨o', e, q.mono0 (stp_hide h) fun a _ u => upd_keep h a u⟩
theorem stp_hidW {p : Addr} {o : HO} (hp : p ∈ al.hid) : Stp0 al H al (upd H p o) := by
  refine ⟨fun _ _ h => .inl h, fun _ h => .inl h, fun a u hn e => ?_, fun a ha => ?_⟩
  · rw [upd_ne (fun z => hn (by rw [z]; exact List.mem_append_left _ hp))]; exact e
  · by_cases e : a = p
    · subst e; rw [upd_same]; simp
    · rw [upd_ne e]; exact ha
theorem Rel.hidW (rel : Rel K al H O) {p : Addr} {o : HO} (hp : p ∈ al.hid) (ho : ∀ xs : List V, o ≠ .tup xs := by intro _ e; cases e) : Rel K al (upd H p o) O := by
  refine ⟨rel.len, rel.nd, fun a ha => (stp_hidW hp).there a (rel.live a ha), nt_upd rel ho, fun k c hk => ?_⟩
  obtain ⟨o', e, q⟩ := rel.ok k c hk
  refine ⟨o', e, q.mono0 (stp_hidW hp) fun a ha u hu => ?_⟩
  rw [upd_ne (fun z => hid_out rel.nd e ha (by rw [z]; exact hp))]
  exact hu
theorem Rel.show_ {hid : List Addr} {p : Addr} (rel : Rel K al H O) (hh : al.hid = p :: hid) : Rel K ⟨hid, al.l⟩ H O ∧ Stp0 al H ⟨hid, al.l⟩ H ∧ p ∉ fp ⟨hid, al.l⟩ := by
  have e : fp al = p :: fp ⟨hid, al.l⟩ := by unfold fp; rw [hh]; rfl
  have s : Stp0 al H ⟨hid, al.l⟩ H := ⟨fun _ _ h => .inl h, fun a ha => .inl (by rw [e]; exact List.mem_cons_of_mem _ ha), fun _ _ _ h => h, fun _ h => h⟩
  have nd := rel.nd
  rw [e] at nd
  refine ⟨⟨rel.len, (List.nodup_cons.mp nd).2, fun a ha => rel.live a (by rw [e]; exact List.mem_cons_of_mem _ ha), fun a ha => rel.nt a (by rw [e]; exact List.mem_cons_of_mem _ ha), fun k c hk => ?_⟩, s, (List.nodup_cons.mp nd).1⟩
  obtain ⟨o', e1, q⟩ := rel.ok k c hk
  exact ⟨o', e1, q.mono0 s fun _ _ _ h => h⟩
end
section
variable {X : Cx} {W : WX} {es : List Expr} {pos : Pos}
theorem px_frz (i : Nat) {x : Str} {pos : Pos} (hN : X.N[i]? = some x := by rfl) (hv : Vis X.env.scope x := by first | exact Or.inl rfl | exact Or.inr (Or.inl rfl) | exact Or.inr (Or.inr rfl)) (hd : (x == ("__debug__" : Str)) = false := by decide)
    (hcd : (x == ("__classdict__" : Str)) = false := by decide) : PX X W (.Name x pos) (xFrz i) := ⟨_, pe_var hN hv hd hcd, rd_frz i⟩
theorem px_lstO {t : TAX} (h : PAX X W es t) (hn : decide (es.length ≤ 1000) = true := by rfl) : PX X W (.List es pos) (xLstO t) := let ⟨_, p, q⟩ := h; ⟨_, pe_lst p, rd_lstO q (Nat.le_trans (of_decide_eq_true hn) (by decide))⟩
end
end Px

namespace Px
open PySem PySem.Spec PyProof.Rows L2

def Wk (K : PySem.W.Frag) (J : It) (ds : List D) (grd : Om → Prop) (al0 : AL) (H0 : Hp) : Prop :=
  ∀ al H O, Stp0 al0 H0 al H → Rel K al H O → grd O → (∀ i, ds.length ≤ i → J.stop i H) ∧ ∀ i d, ds[i]? = some d → J.go i H ∧ ∀ x H', J.yld i H x H' → Stp al H al H' ∧ (∀ a u, H a = some u → H' a = some u) ∧ Rp K al H' x d
abbrev TIX := Gam → Om → (List D → (Om → Prop) → Om → Prop) → EX → Prop
def RdI (K : PySem.W.Frag) (W : WX) (wi : TI) (t : TIX) : Prop := ∀ (al : AL) (H : Hp) (σ : L2.St) (G : Gam) (O : Om) (Q : List D → (Om → Prop) → Om → Prop) (E : EX) (R : It → Hp → Prop), Rel K al H O → EnvR K al H σ G → t G O Q E →
  (∀ al' H' O' J ds grd, Stp al H al' H' → Rel K al' H' O' → Wk K J ds grd al' H' → ds.length ≤ sizeLine → Q ds grd O' → R J H') →
  (∀ al' H' O' x cls dd, Stp al H al' H' → Rel K al' H' O' → ExR K al' H' x cls dd → E x O' → W cls dd σ H') → wi σ H R
def PIX (X : Cx) (W : WX) (tg iter : Expr) (t : TIX) : Prop := ∃ wi, PI X tg iter wi ∧ RdI X.K W wi t
def forGo0 (g : TGX) (body : TSX) (grd : Om → Prop) (En : Ed) : List D → Gam → Om → Prop
  | [], G, O => grd O ∧ En.nx G O
  | d :: ds, G, O => grd O ∧ g d G O (fun G1 O1 => body { En with nx := forGo0 g body grd En ds, ct := forGo0 g body grd En ds, bk := En.nx } G1 O1) (fun x O1 => En.ex x G O1)
inductive forGo (g : TGX) (body : TSX) (grd : Om → Prop) (En : Ed) (ds : List D) (G : Gam) (O : Om) : Prop
  | mk (h : forGo0 g body grd En ds G O) : forGo g body grd En ds G O
def xFor (i : TIX) (g : TGX) (body : TSX) : TSX := fun D G O => i G O (fun ds grd O1 => forGo g body grd D ds G O1) (fun x O1 => D.ex x G O1)
section
variable {K : PySem.W.Frag} {W : WX}
theorem rd_for {is : List Nat} {wi : TI} {tg : TG} {tb : TS} {i : TIX} {g : TGX} {body : TSX} (hi : RdI K W wi i) (hg : RdG K W is tg g) (hb : RdS K W tb body) : RdS K W (tFor wi tg tb) (xFor i g body) := by
  intro al H σ G O D R rel env q e
  refine hi al H σ G O _ _ _ rel env q (fun al1 H1 O1 J ds grd s1 rel1 wk hl ⟨q1⟩ => ?_) (fun al1 H1 O1 x cls dd s1 rel1 r1 q1 => e.ex _ _ _ _ _ _ _ _ s1 rel1 (env.mono s1) r1 q1)
  refine ⟨fun i m σ' H' => ∃ al' G' O', Stp al1 H1 al' H' ∧ Rel K al' H' O' ∧ EnvR K al' H' σ' G' ∧ i + m = ds.length ∧ forGo0 g body grd D (ds.drop i) G' O', ⟨ds.length, al1, G, O1, Stp.refl _ _, rel1, env.mono s1, by omega, q1⟩, ?_⟩
  rintro i m σ' H' ⟨al', G', O', s', rel', env', hm, h⟩
  by_cases hlt : i < ds.length
  · right
    rw [List.drop_eq_getElem_cons hlt] at h
    obtain ⟨hgr, h⟩ := h
    obtain ⟨_, w2⟩ := wk al' H' O' s'.toStp0 rel' hgr
    obtain ⟨hgo, hy⟩ := w2 i ds[i] (List.getElem?_eq_getElem hlt)
    refine ⟨hgo, fun σ2 H2 => ∃ al2 G2 O2, Stp al1 H1 al2 H2 ∧ Rel K al2 H2 O2 ∧ EnvR K al2 H2 σ2 G2 ∧ forGo0 g body grd D (ds.drop (i + 1)) G2 O2, ?_, fun x H2 hyl => ?_⟩
    · rintro σ2 H2 ⟨al2, G2, O2, a1, a2, a3, a4⟩
      exact ⟨m - 1, by omega, al2, G2, O2, a1, a2, a3, by omega, a4⟩
    · obtain ⟨sy, ky, ry⟩ := hy x H2 hyl
      have rel2 := rel'.keep sy ky
      refine hg al' H2 σ' G' O' x _ _ _ _ rel2 (env'.mono sy) ry h (fun al3 H3 O3 σ3 G3 s3 rel3 env3 _ q3 => ?_) (fun al3 H3 O3 y cls dd s3 rel3 r3 q3 => ?_)
      · have s13 : Stp al1 H1 al3 H3 := (s'.trans sy).trans s3
        refine hb al3 H3 σ3 G3 O3 _ _ rel3 env3 q3 ⟨fun al4 H4 O4 σ4 G4 s4 rel4 env4 q4 => ⟨al4, G4, O4, s13.trans s4, rel4, env4, q4⟩, fun al4 H4 O4 v d s4 rel4 r4 q4 => ?_, fun al4 H4 O4 σ4 G4 s4 rel4 env4 q4 => ?_, fun al4 H4 O4 σ4 G4 s4 rel4 env4 q4 => ⟨al4, G4, O4, s13.trans s4, rel4, env4, q4⟩, fun al4 H4 O4 σ4 G4 y cls dd s4 rel4 env4 r4 q4 => ?_⟩
        · exact e.rt _ _ _ _ _ (s1.trans (s13.trans s4)) rel4 r4 q4
        · exact e.nx _ _ _ _ _ (s1.trans (s13.trans s4)) rel4 env4 q4
        · exact e.ex _ _ _ _ _ _ _ _ (s1.trans (s13.trans s4)) rel4 env4 r4 q4
      · exact e.ex _ _ _ _ _ _ _ _ (s1.trans ((s'.trans sy).trans s3)) rel3 (env'.mono (sy.trans s3)) r3 q3
  · left
    rw [List.drop_eq_nil_of_le (Nat.le_of_not_lt hlt)] at h
    obtain ⟨hgr, h⟩ := h
    obtain ⟨w1, _⟩ := wk al' H' O' s'.toStp0 rel' hgr
    exact ⟨w1 i (Nat.le_of_not_lt hlt), e.nx _ _ _ _ _ (s1.trans s') rel' env' h⟩
end

theorem wipe_nil_of {σ : L2.St} : ∀ {vs : List Nat} {v : Nat}, v ∈ vs → (wipe σ vs).set v none = wipe σ vs
  | [], _, h => by cases h
  | u :: us, v, h => by
    show ((wipe σ us).set u none).set v none = (wipe σ us).set u none
    by_cases e : v = u
    · subst e; rw [List.set_set]
    · have h' : v ∈ us := (List.mem_cons.mp h).resolve_left e
      rw [List.set_comm _ _ (Ne.symm e), wipe_nil_of h']
theorem wipe_wipe {σ : L2.St} : ∀ {vs : List Nat}, wipe (wipe σ vs) vs = wipe σ vs := by
  intro vs
  have gen : ∀ (us : List Nat), (∀ u ∈ us, u ∈ vs) → wipe (wipe σ vs) us = wipe σ vs := by
    intro us
    induction us with
    | nil => intro _; rfl
    | cons u us ih =>
      intro h
      show (wipe (wipe σ vs) us).set u none = _
      rw [ih (fun x hx => h x (List.mem_cons_of_mem _ hx)), wipe_nil_of (h u List.mem_cons_self)]
  exact gen vs fun _ h => h
def wipeG (G : Gam) : List Nat → Gam
  | [] => G
  | v :: vs => (wipeG G vs).set v none
theorem env_wipe {K : PySem.W.Frag} {al : AL} {H : Hp} {σ : L2.St} {G : Gam} (env : EnvR K al H σ G) : ∀ vs : List Nat, EnvR K al H (wipe σ vs) (wipeG G vs)
  | [] => env
  | v :: vs => by
    have ih := env_wipe env vs
    refine ⟨by show ((wipe σ vs).set v none).length = ((wipeG G vs).set v none).length; rw [List.length_set, List.length_set]; exact ih.len, fun i d h => ?_⟩
    have h' : ((wipeG G vs).set v none)[i]? = some (some d) := h
    by_cases e : i = v
    · subst e
      by_cases hlt : i < (wipeG G vs).length
      · rw [List.getElem?_set_self hlt] at h'; cases h'
      · rw [List.getElem?_eq_none (by rw [List.length_set]; omega)] at h'; cases h'
    · rw [List.getElem?_set_ne (Ne.symm e)] at h'
      obtain ⟨u, e1, r⟩ := ih.get i d h'
      exact ⟨u, by show ((wipe σ vs).set v none)[i]? = _; rw [List.getElem?_set_ne (Ne.symm e)]; exact e1, r⟩
def wipeK (G : Gam) : List Nat → (Gam → Prop) → Prop
  | [], k => k G
  | v :: vs, k => wipeK G vs fun G' => gsetK G' v none k
theorem wipeK_eq (G : Gam) : ∀ (vs : List Nat) (k : Gam → Prop), wipeK G vs k = k (wipeG G vs)
  | [], _ => rfl
  | v :: vs, k => by
    show wipeK G vs (fun G' => gsetK G' v none k) = _
    rw [wipeK_eq G vs, gsetK_eq]
    rfl
def noE : EX := fun _ _ => False
def lcGo0 (g : TGX) (tt : TTX) (te : TX) (grd : Om → Prop) (G : Gam) (Q : QX) : List D → List D → Om → Prop
  | [], acc, O => grd O ∧ Q (.lst acc) O
  | d :: ds, acc, O => grd O ∧ g d G O (fun G1 O1 => tt G1 O1 (fun b O2 => xite b (te G1 O2 (fun y O3 => lcGo0 g tt te grd G Q ds (acc ++ [y]) O3) noE) (lcGo0 g tt te grd G Q ds acc O2)) noE) noE
inductive lcGo (g : TGX) (tt : TTX) (te : TX) (grd : Om → Prop) (G : Gam) (Q : QX) (ds acc : List D) (O : Om) : Prop
  | mk (h : lcGo0 g tt te grd G Q ds acc O) : lcGo g tt te grd G Q ds acc O
def xLc (i : TIX) (g : TGX) (tt : TTX) (te : TX) (vs : List Nat) : TX := fun G O Q E => i G O (fun ds grd O1 => wipeK G vs fun G' => lcGo g tt te grd G' Q ds [] O1) E
def xYes : TTX := fun _ O Q _ => Q true O
def PTsX (X : Cx) (W : WX) (es : List Expr) (t : TTX) : Prop := ∃ tt, PTs X es tt ∧ RdT X.K W tt t
abbrev WN : WX := fun _ _ _ _ => False
section
variable {K : PySem.W.Frag} {W : WX}
theorem rd_lc {is : List Nat} {wi : TI} {tg : TG} {tc : TT} {te : TE} {i : TIX} {g : TGX} {tt : TTX} {t : TX} {vs : List Nat} (hv : ∀ j ∈ is, j ∈ vs) (hi : RdI K W wi i) (hg : RdG K WN is tg g) (hc : RdT K WN tc tt) (he : RdE K WN te t) : RdE K W (tLc wi tg tc te vs) (xLc i g tt t vs) := by
  intro al H σ G O Q E R rel env q hq hE
  refine hi al H σ G O _ _ _ rel env q (fun al1 H1 O1 J ds grd s1 rel1 wk hlen q1 => ?_) hE
  rw [wipeK_eq] at q1
  obtain ⟨q1⟩ := q1
  intro Dl hD
  have env1 := env_wipe (env.mono s1) vs
  have s0 : Stp0 al1 H1 (al1.hide Dl) (upd H1 Dl (.lst [])) := stp_hide hD
  refine ⟨fun i m H' => ∃ al' O' acc accD, H' Dl = some (.lst acc) ∧ Rel K al' H' O' ∧ al'.hid = Dl :: al1.hid ∧ RpA K al' H' acc accD ∧ acc.length ≤ i ∧ i + m = ds.length ∧
      Stp0 (al1.hide Dl) (upd H1 Dl (.lst [])) al' H' ∧ (∀ a, a ∈ al1.hid → H' a = H1 a) ∧ lcGo0 g tt t grd (wipeG G vs) Q (ds.drop i) accD O',
    ⟨ds.length, al1.hide Dl, O1, [], [], upd_same, rel1.hide hD, rfl, .nil, Nat.le_refl _, by omega, .refl _ _, fun a ha => upd_ne fun e => rel1.live a (List.mem_append_left _ ha) (by rw [e]; exact hD), q1⟩, ?_⟩
  rintro i m H' ⟨al', O', acc, accD, hA, rel', hh, rA, hl, hm, S0, hs, h⟩
  by_cases hlt : i < ds.length
  · right
    rw [List.drop_eq_getElem_cons hlt] at h
    obtain ⟨hgr, h⟩ := h
    obtain ⟨_, w2⟩ := wk al' H' O' (s0.trans S0) rel' hgr
    obtain ⟨hgo, hy⟩ := w2 i ds[i] (List.getElem?_eq_getElem hlt)
    refine ⟨hgo, fun H2 => ∃ al2 O2 acc2 accD2, H2 Dl = some (.lst acc2) ∧ Rel K al2 H2 O2 ∧ al2.hid = Dl :: al1.hid ∧ RpA K al2 H2 acc2 accD2 ∧ acc2.length ≤ i + 1 ∧
      Stp0 (al1.hide Dl) (upd H1 Dl (.lst [])) al2 H2 ∧ (∀ a, a ∈ al1.hid → H2 a = H1 a) ∧ lcGo0 g tt t grd (wipeG G vs) Q (ds.drop (i + 1)) accD2 O2, ?_, fun x H2 hyl => ?_⟩
    · rintro H2 ⟨al2, O2, acc2, accD2, a1, a2, a3, a4, a5, a6, a7, a8⟩
      exact ⟨m - 1, by omega, al2, O2, acc2, accD2, a1, a2, a3, a4, a5, by omega, a6, a7, a8⟩
    · obtain ⟨sy, ky, ry⟩ := hy x H2 hyl
      have rel2 := rel'.keep sy ky
      have S2 := S0.trans sy.toStp0
      have hid2 : ∀ {al3 : AL} {H3 : Hp}, Stp al' H2 al3 H3 → al3.hid = Dl :: al1.hid ∧ H3 Dl = some (.lst acc) ∧ ∀ a, a ∈ al1.hid → H3 a = H1 a := fun {al3 H3} s3 => by
        refine ⟨s3.hid.trans hh, ?_, fun a ha => ?_⟩
        · rw [s3.same Dl (by rw [hh]; exact List.mem_cons_self)]; exact ky _ _ hA
        · rw [s3.same a (by rw [hh]; exact List.mem_cons_of_mem _ ha), sy.same a (by rw [hh]; exact List.mem_cons_of_mem _ ha)]; exact hs a ha
      refine hg al' H2 (wipe σ vs) (wipeG G vs) O' x _ _ _ _ rel2 (env1.mono0 (s0.trans S2)) ry h (fun al3 H3 O3 σ3 G3 s3 rel3 env3 hw q3 => ?_) (fun _ _ _ _ _ _ _ _ _ z => z.elim)
      refine ⟨by rw [hw vs hv, wipe_wipe], ?_⟩
      refine hc al3 H3 σ3 G3 O3 _ _ _ rel3 env3 q3 (fun al4 H4 O4 b s4 rel4 q4 => ?_) (fun _ _ _ _ _ _ _ _ _ z => z.elim)
      have s34 := s3.trans s4
      cases b with
      | false =>
        obtain ⟨e1, e2, e3⟩ := hid2 s34
        exact ⟨al4, O4, acc, accD, e2, rel4, e1, rA.mono0 (sy.toStp0.trans s34.toStp0), by omega, S2.trans s34.toStp0, e3, q4⟩
      | true =>
        refine he al4 H4 σ3 G3 O4 _ _ _ rel4 (env3.mono s4) q4 (fun al5 H5 O5 y d s5 rel5 r5 q5 => ?_) (fun _ _ _ _ _ _ _ _ _ z => z.elim)
        have s35 := s34.trans s5
        obtain ⟨e1, e2, e3⟩ := hid2 s35
        have hin : Dl ∈ al5.hid := by rw [e1]; exact List.mem_cons_self
        have sW : Stp0 al5 H5 al5 (upd H5 Dl (.lst (acc ++ [y]))) := stp_hidW hin
        refine ⟨acc, e2, by omega, al5, O5, acc ++ [y], accD ++ [d], upd_same, rel5.hidW hin, e1, ((rA.mono0 ((sy.toStp0.trans s35.toStp0).trans sW))).append (.cons (r5.mono0 sW) .nil), by rw [List.length_append]; simp; omega, (S2.trans s35.toStp0).trans sW, fun a ha => ?_, q5⟩
        rw [upd_ne (fun z => ?_)]
        · exact e3 a ha
        · subst z
          exact rel1.live _ (List.mem_append_left _ ha) hD
  · left
    rw [List.drop_eq_nil_of_le (Nat.le_of_not_lt hlt)] at h
    obtain ⟨hgr, h⟩ := h
    obtain ⟨w1, _⟩ := wk al' H' O' (s0.trans S0) rel' hgr
    refine ⟨w1 i (Nat.le_of_not_lt hlt), ?_⟩
    obtain ⟨relE, sE, nD⟩ := rel'.show_ hh
    have sF : Stp al1 H1 ⟨al1.hid, al'.l⟩ H' := by
      have z := (s0.trans S0).trans sE
      exact ⟨z, rfl, hs⟩
    exact hq _ _ _ _ _ (s1.trans sF) relE (.lst (.inl ⟨nD, .inl hA⟩) (by omega) (rA.mono0 sE)) h
end
section
variable {X : Cx} {W : WX}
theorem ptsx_nil : PTsX X W [] xYes := ⟨_, pts_nil, fun al H σ G O Q E R rel env q hq _ => hq _ _ _ _ (Stp.refl _ _) rel q⟩
theorem ptsx_one {c : Expr} {t : TTX} (h : PTX X W c t) : PTsX X W [c] t := let ⟨_, p, q⟩ := h; ⟨_, pts_one p, q⟩
theorem psx_for {is : List Nat} {tg iter : Expr} {body : List Stmt} {i : TIX} {g : TGX} {t : TSX} {pos : Pos} (hp : PassesOwn (model X.prog X.w) X.A X.env X.xe) (hc : X.calm = true) (hi : PIX X W tg iter i) (hg : PGX X W tg is g) (hb : PSsX X W body t) (hs : ∀ x, foldedSetIterable iter X.env x = pure x := by intro _; rfl) :
    PSX X W (.For tg iter body [] pos) (xFor i g t) := let ⟨_, p1, q1⟩ := hi; let ⟨_, p2, q2⟩ := hg; let ⟨_, p3, q3⟩ := hb; ⟨_, ps_for hp hc p1 p2 p3 hs, rd_for q1 q2 q3⟩
def teOf (K : PySem.W.Frag) (W : WX) (t : TX) : TE := fun σ H R => ∃ al G O Q E, Rel K al H O ∧ EnvR K al H σ G ∧ t G O Q E ∧ (∀ al' H' O' v d, Stp al H al' H' → Rel K al' H' O' → Rp K al' H' v d → Q d O' → R v H') ∧
  (∀ al' H' O' x cls dd, Stp al H al' H' → Rel K al' H' O' → ExR K al' H' x cls dd → E x O' → W cls dd σ H')
def ttOf (K : PySem.W.Frag) (W : WX) (t : TTX) : TT := fun σ H R => ∃ al G O Q E, Rel K al H O ∧ EnvR K al H σ G ∧ t G O Q E ∧ (∀ al' H' O' b, Stp al H al' H' → Rel K al' H' O' → Q b O' → R b H') ∧
  (∀ al' H' O' x cls dd, Stp al H al' H' → Rel K al' H' O' → ExR K al' H' x cls dd → E x O' → W cls dd σ H')
def tgOf (K : PySem.W.Frag) (W : WX) (is : List Nat) (t : TGX) : TG := fun v σ H R => ∃ al G O d Q E, Rel K al H O ∧ EnvR K al H σ G ∧ Rp K al H v d ∧ t d G O Q E ∧ (∀ al' H' O' σ' G', Stp al H al' H' → Rel K al' H' O' → EnvR K al' H' σ' G' → (∀ vs : List Nat, (∀ i ∈ is, i ∈ vs) → wipe σ' vs = wipe σ vs) → Q G' O' → R σ' H') ∧
  (∀ al' H' O' x cls dd, Stp al H al' H' → Rel K al' H' O' → ExR K al' H' x cls dd → E x O' → W cls dd σ H')
theorem PX.canon {e : Expr} {t : TX} (h : PX X W e t) : PE X e (teOf X.K W t) := let ⟨_, p, q⟩ := h
  ⟨fun pins s σ H Q I ⟨al, G, O, Q', E, a1, a2, a3, a4, a5⟩ => p.run pins s σ H Q I (q al H σ G O Q' E Q a1 a2 a3 a4 a5)⟩
theorem PTsX.canon {es : List Expr} {t : TTX} (h : PTsX X W es t) : PTs X es (ttOf X.K W t) := let ⟨_, p, q⟩ := h
  ⟨fun pins s σ H Q I ⟨al, G, O, Q', E, a1, a2, a3, a4, a5⟩ => p.run pins s σ H Q I (q al H σ G O Q' E Q a1 a2 a3 a4 a5)⟩
theorem PGX.canon {is : List Nat} {tg : Expr} {t : TGX} (h : PGX X W tg is t) : PG X tg (tgOf X.K W is t) := let ⟨_, p, q⟩ := h
  ⟨fun pins s σ H v u Q I r ⟨al, G, O, d, Q', E, a1, a2, a3, a4, a5, a6⟩ => p.run pins s σ H v u Q I r (q al H σ G O v d Q' E Q a1 a2 a3 a4 a5 a6)⟩
theorem rd_teOf {K : PySem.W.Frag} {t : TX} : RdE K W (teOf K W t) t := fun al H σ G O Q E R a1 a2 a3 a4 a5 => ⟨al, G, O, Q, E, a1, a2, a3, a4, a5⟩
theorem rd_ttOf {K : PySem.W.Frag} {t : TTX} : RdT K W (ttOf K W t) t := fun al H σ G O Q E R a1 a2 a3 a4 a5 => ⟨al, G, O, Q, E, a1, a2, a3, a4, a5⟩
theorem rd_tgOf {K : PySem.W.Frag} {is : List Nat} {t : TGX} : RdG K W is (tgOf K W is t) t := fun al H σ G O v d Q E R a1 a2 a3 a4 a5 a6 => ⟨al, G, O, d, Q, E, a1, a2, a3, a4, a5, a6⟩
theorem px_lc {is : List Nat} {elt tg iter : Expr} {ifs : List Expr} {scope : Scope} {own : List (Str × Nat)} {pos : Pos} {i : TIX} {g : TGX} {tt : TTX} {t : TX} (hc : X.calm = true) (hN : X.N.Nodup) (hi : PIX X W tg iter i) {N : List Str} {sc : Scope} (ok : blkC N sc scope own = true)
    (hg : ∀ (s : Shared) (H : Hp) (C : Addr) (cl : List (Str × Addr)) (fp : List Addr), PGX (X.blk s H scope (compEnvC scope cl C X.env) fp) WN tg is g) (ht : ∀ (s : Shared) (H : Hp) (C : Addr) (cl : List (Str × Addr)) (fp : List Addr), PTsX (X.blk s H scope (compEnvC scope cl C X.env) fp) WN ifs tt)
    (he : ∀ (s : Shared) (H : Hp) (C : Addr) (cl : List (Str × Addr)) (fp : List Addr), PX (X.blk s H scope (compEnvC scope cl C X.env) fp) WN elt t) (hNN : X.N = N := by rfl) (hsc : X.env.scope = sc := by rfl) (hv : (is.all fun j => decide (j ∈ own.map (·.2))) = true := by rfl) (hs : ∀ x, foldedSetIterable iter X.env x = pure x := by intro _; rfl) :
    PX X W (.ListComp elt [⟨tg, iter, ifs, 0⟩] scope pos) (xLc i g tt t (own.map (·.2))) :=
  let ⟨_, p1, q1⟩ := hi
  ⟨_, pe_lc hc hN p1 (by rw [hNN, hsc]; exact blkOk_by ok) (fun s H C cl fp => (hg s H C cl fp).canon) (fun s H C cl fp => (ht s H C cl fp).canon) (fun s H C cl fp => (he s H C cl fp).canon) hs,
    rd_lc (fun j hj => of_decide_eq_true (List.all_eq_true.mp hv j hj)) q1 rd_tgOf rd_ttOf rd_teOf⟩
theorem psx_setLc {is : List Nat} {k : Nat} {y : Str} {py : Pos} {elt tg iter : Expr} {ifs : List Expr} {scope : Scope} {own : List (Str × Nat)} {pos spos : Pos} {i : TIX} {g : TGX} {tt : TTX} {t : TX} (hc : X.calm = true) (hN : X.N.Nodup) (hy : X.N[k]? = some y) (hyl : X.env.scope.names.lookup y = some .local)
    (hsw : swapsWith (.ListComp elt [⟨tg, iter, ifs, 0⟩] scope pos) (some (.Name y py)) spos.line X.env = pure true) (hi : PIX X W tg iter i) {N : List Str} {sc : Scope} (ok : blkC N sc scope own = true)
    (hg : ∀ (s : Shared) (H : Hp) (C : Addr) (cl : List (Str × Addr)) (fp : List Addr), PGX (X.blk s H scope (compEnvC scope cl C X.env) fp) WN tg is g) (ht : ∀ (s : Shared) (H : Hp) (C : Addr) (cl : List (Str × Addr)) (fp : List Addr), PTsX (X.blk s H scope (compEnvC scope cl C X.env) fp) WN ifs tt)
    (he : ∀ (s : Shared) (H : Hp) (C : Addr) (cl : List (Str × Addr)) (fp : List Addr), PX (X.blk s H scope (compEnvC scope cl C X.env) fp) WN elt t) (hNN : X.N = N := by rfl) (hsc : X.env.scope = sc := by rfl) (hv : (is.all fun j => decide (j ∈ own.map (·.2))) = true := by rfl) (hs : ∀ x, foldedSetIterable iter X.env x = pure x := by intro _; rfl) :
    PSX X W (.Assign [.Name y py] (.ListComp elt [⟨tg, iter, ifs, 0⟩] scope pos) spos) (xAsg (xLc i g tt t (own.map (·.2))) (xName k)) :=
  let ⟨_, p1, q1⟩ := hi
  ⟨_, ps_setLc hc hN hy hyl hsw p1 (by rw [hNN, hsc]; exact blkOk_by ok) (fun s H C cl fp => (hg s H C cl fp).canon) (fun s H C cl fp => (ht s H C cl fp).canon) (fun s H C cl fp => (he s H C cl fp).canon) hs,
    rd_asg (rd_lc (fun j hj => of_decide_eq_true (List.all_eq_true.mp hv j hj)) q1 rd_tgOf rd_ttOf rd_teOf) rd_name⟩
end
end Px

namespace Px
open PySem PySem.Spec PyProof.Rows L2

def iAny (K : PySem.W.Frag) (te : TE) : TI := fun σ H R => te σ H fun x H1 => (∃ a xs, x = .ref a ∧ SqL K H1 a xs ∧ R (Itl K a) H1) ∨ (∃ a xs, x = .ref a ∧ SqT K H1 a xs ∧ R (Itt K a) H1) ∨ ∃ z, x = .str z ∧ R (Its z) H1
theorem pi_any {X : Cx} {tg e : Expr} {te : TE} (he : PE X e te) : PI X tg e (iAny X.K te) := by
  refine ⟨fun pins s σ H R I h => ?_⟩
  refine thn (he.run pins s σ H _ I h) fun v s1 ⟨x, H1, I1, r1, q1⟩ => ?_
  rcases q1 with ⟨a, xs, rfl, hq, q⟩ | ⟨a, xs, rfl, hq, q⟩ | ⟨z, rfl, q⟩
  · cases r1
    obtain ⟨its, rv, p, hz⟩ := I1.list hq
    refine wpAny_pyIter_list p.isList ?_
    refine ⟨s1.heap.objs.size, [s1.heap.objs.size], _, _, H1, rfl, I1.kept (t' := s1.toks) fun b o e => Heap.get?_push_of_some _ e, turn_list a _, ⟨_, Heap.get?_push_size _ rfl, rfl, rfl⟩, fun b hb => ?_, q⟩
    have e : b = s1.heap.objs.size := by simpa using hb
    subst e
    exact I1.fpOk (Nat.le_refl _) (I1.hok.fresh (Nat.le_refl _))
  · cases r1
    obtain ⟨its, rv, p, hz⟩ := I1.tuple hq
    refine wpAny_pyIter_tuple (show s1.heap.IsTuple a its.toArray from p) ?_
    refine ⟨s1.heap.objs.size, [s1.heap.objs.size], _, _, H1, rfl, I1.kept (t' := s1.toks) fun b o e => Heap.get?_push_of_some _ e, turn_tuple a _, ⟨_, Heap.get?_push_size _ rfl, rfl, rfl⟩, fun b hb => ?_, q⟩
    have e : b = s1.heap.objs.size := by simpa using hb
    subst e
    exact I1.fpOk (Nat.le_refl _) (I1.hok.fresh (Nat.le_refl _))
  · obtain ⟨t, rfl⟩ := r1
    cases ha : z.cps.all (· < 128)
    · exact wpAny_pyIter_wide ha (pi_one (tk := s1.toks) I1 _ (turn_str _ z t "str_iterator" (.inr rfl)) ⟨_, Heap.get?_push_size _ rfl, rfl, rfl⟩ q)
    · exact wpAny_pyIter_ascii ha (pi_one (tk := s1.toks) I1 _ (turn_str _ z t "str_ascii_iterator" (.inl rfl)) ⟨_, Heap.get?_push_size _ rfl, rfl, rfl⟩ q)
def signs (x : Str) : List D := x.cps.toList.map fun c => .str ⟨#[c]⟩
def optK2 {α β : Type} (o : Option (α × β)) (Q : α → β → Prop) : Prop := match o with
  | some (a, b) => Q a b
  | none => False
theorem optK2.mk {α β : Type} {o : Option (α × β)} {Q : α → β → Prop} {a : α} {b : β} (e : o = some (a, b)) (h : Q a b) : optK2 o Q := by subst e; exact h
theorem optK2.ex {α β : Type} {o : Option (α × β)} {Q : α → β → Prop} (h : optK2 o Q) : ∃ a b, o = some (a, b) ∧ Q a b := by
  cases o with
  | some p => exact ⟨p.1, p.2, rfl, h⟩
  | none => exact (show False from h).elim
def ownW (O : Om) (k : Nat) : Option (List D × (Om → Prop)) := match O[k]? with
  | some (.lst ds) => some (ds, fun O' => O'[k]? = some (.lst ds))
  | _ => none
theorem ownW_ex {O : Om} {k : Nat} {ds : List D} {g : Om → Prop} (h : ownW O k = some (ds, g)) : O[k]? = some (.lst ds) ∧ g = fun O' => O'[k]? = some (.lst ds) := by
  unfold ownW at h
  split at h
  · rename_i e
    cases h
    exact ⟨e, rfl⟩
  · cases h
theorem ownW_l {O : Om} {k : Nat} {ds : List D} (h : O[k]? = some (.lst ds)) : ownW O k = some (ds, fun O' => O'[k]? = some (.lst ds)) := by
  unfold ownW; rw [h]
def wkD (O : Om) (d : D) : Option (List D × (Om → Prop)) := match d with
  | .lst ds => some (ds, fun _ => True)
  | .tup ds => some (ds, fun _ => True)
  | .str x => some (signs x, fun _ => True)
  | .own k => ownW O k
  | _ => none
def lkD (O : Om) (d : D) : Option (List D × (Om → Prop)) := match d with
  | .lst ds => some (ds, fun _ => True)
  | .own k => ownW O k
  | _ => none
def dWalk (d : D) (O : Om) (Q : List D → (Om → Prop) → Prop) : Prop := optK2 (wkD O d) Q
def xWalk (a : TX) : TIX := fun G O Q E => a G O (fun d O1 => dWalk d O1 fun ds grd => Q ds grd O1) E
def dRng (vs : List D) (Q : List D → Prop) : Prop := match vs with
  | [.int n] => -(2 ^ 62) ≤ n ∧ n ≤ 1000000 ∧ Q ((List.range n.toNat).map fun i => .int (i : Nat))
  | [.int a, .int b] => (-(2 ^ 62) ≤ a ∧ a < 2 ^ 62 ∧ -(2 ^ 62) ≤ b ∧ b < 2 ^ 62 ∧ b - a ≤ 1000000) ∧ Q ((List.range (b - a).toNat).map fun i => .int (a + (i : Nat)))
  | _ => False
def xRng (a : TAX) : TIX := fun G O Q E => a G O (fun vs O1 => dRng vs fun ds => Q ds (fun _ => True) O1) E
def enumD : Nat → List D → List D
  | _, [] => []
  | i, d :: ds => .tup [.int (i : Nat), d] :: enumD (i + 1) ds
def zipD : List D → List D → List D
  | d :: ds, e :: es => .tup [d, e] :: zipD ds es
  | _, _ => []
def dLst (d : D) (O : Om) (Q : List D → (Om → Prop) → Prop) : Prop := optK2 (lkD O d) Q
def xEnum (a : TX) : TIX := fun G O Q E => a G O (fun d O1 => dLst d O1 fun ds grd => Q (enumD 0 ds) grd O1) E
def xZip (a b : TX) : TIX := fun G O Q E => a G O (fun d O1 => b G O1 (fun e O2 => dLst d O2 fun ds g1 => dLst e O2 fun es g2 => Q (zipD ds es) (fun O => g1 O ∧ g2 O) O2) E) E
section
variable {K : PySem.W.Frag} {W : WX} {al : AL} {H : Hp} {O : Om}
theorem lst_later {v : V} {d : D} {Q : List D → (Om → Prop) → Prop} (rel : Rel K al H O) (r : Rp K al H v d) (h : dLst d O Q) : ∃ a ds grd, v = .ref a ∧ Q ds grd ∧ grd O ∧ ∀ al' H' O', Stp0 al H al' H' → Rel K al' H' O' → grd O' → ∃ xs, SqL K H' a xs ∧ RpA K al' H' xs ds ∧ xs.length ≤ sizeLine := by
  cases d with
  | lst ds =>
    cases r with
    | @lst a xs _ hs hl hr =>
      refine ⟨a, ds, _, rfl, h, trivial, fun al' H' O' s _ _ => ⟨xs, ?_, hr.mono0 s, hl⟩⟩
      rcases hs with z | z
      · exact .inl (s.rd z.1 z.2).2
      · exact z.sq H'
  | own k =>
    have h' : optK2 (ownW O k) Q := h
    obtain ⟨ds, g, eg, h'⟩ := h'.ex
    obtain ⟨e, rfl⟩ := ownW_ex eg
    · obtain ⟨o, e1, q, hv⟩ := r.ownI rel e
      match o, q with
      | some (a, none), q =>
        obtain rfl := hv _ rfl
        refine ⟨a, ds, _, rfl, h', e, fun al' H' O' s rel' g => ?_⟩
        obtain ⟨o', e2, q'⟩ := rel'.ok k _ g
        rcases s.old k _ e1 with z | z
        · rw [z] at e2; cases e2
          obtain ⟨xs, a1, a2, a3⟩ := q'
          exact ⟨xs, .inl (.inl a1), a3, a2⟩
        · rw [z] at e2; cases e2
          exact (show False from q').elim
  | _ => exact (show False from h).elim
theorem wk_list {a : Addr} {ds : List D} {grd : Om → Prop} (h : ∀ al' H' O', Stp0 al H al' H' → Rel K al' H' O' → grd O' → ∃ xs, SqL K H' a xs ∧ RpA K al' H' xs ds ∧ xs.length ≤ sizeLine) : Wk K (Itl K a) ds grd al H := by
  intro al' H' O' s rel g
  obtain ⟨xs, h1, h2, _⟩ := h al' H' O' s rel g
  refine ⟨fun i hi => ⟨xs, h1, by rw [h2.length]; exact hi⟩, fun i d hd => ?_⟩
  obtain ⟨v, e, r⟩ := h2.get hd
  refine ⟨⟨xs, v, h1, e⟩, fun x H2 hy => ?_⟩
  obtain ⟨rfl, hy⟩ := hy
  have e2 := hy xs h1
  rw [e] at e2; cases e2
  exact ⟨Stp.refl _ _, fun _ _ h => h, r⟩
theorem rd_walk {te : TE} {t : TX} (h : RdE K W te t) : RdI K W (iAny K te) (xWalk t) := by
  intro al H σ G O Q E R rel env q hq he
  refine h al H σ G O _ E _ rel env q (fun al1 H1 O1 v d s1 rel1 r1 q1 => ?_) he
  have viaL : dLst d O1 (fun ds grd => Q ds grd O1) → (∃ a xs, v = .ref a ∧ SqL K H1 a xs ∧ R (Itl K a) H1) := fun q1 => by
    obtain ⟨a, ds, grd, rfl, q2, g, hl⟩ := lst_later rel1 r1 q1
    obtain ⟨xs, a1, a2, a3⟩ := hl al1 H1 O1 (.refl _ _) rel1 g
    exact ⟨a, xs, rfl, a1, hq _ _ _ _ _ _ s1 rel1 (wk_list hl) (by rw [← a2.length]; exact a3) q2⟩
  cases d with
  | lst ds => exact .inl (viaL q1)
  | own k => exact .inl (viaL q1)
  | tup ds =>
    cases r1 with
    | @tup a xs _ hs hl hr =>
      have hsq : ∀ al' H', Stp0 al1 H1 al' H' → SqT K H' a xs := fun al' H' s => by
        exact .inl (.inl (s.rdX hs.1 hs.2).2)
      refine .inr (.inl ⟨a, xs, rfl, hsq _ _ (.refl _ _), hq _ _ _ _ ds _ s1 rel1 (fun al' H' O' s rel' _ => ?_) (by rw [← hr.length]; exact hl) q1⟩)
      refine ⟨fun i hi => ⟨xs, hsq _ _ s, by rw [hr.length]; exact hi⟩, fun i d hd => ?_⟩
      obtain ⟨v, e, r⟩ := (hr.mono0 s).get hd
      refine ⟨⟨xs, v, hsq _ _ s, e⟩, fun x H2 hy => ?_⟩
      obtain ⟨rfl, hy⟩ := hy
      have e2 := hy xs (hsq _ _ s)
      rw [e] at e2; cases e2
      exact ⟨Stp.refl _ _, fun _ _ h => h, r⟩
  | str z =>
    cases r1 with
    | str _ hs =>
      refine .inr (.inr ⟨z, rfl, hq _ _ _ _ (signs z) _ s1 rel1 (fun al' H' O' s rel' _ => ?_) (by simpa [signs, Str.length] using hs.1) q1⟩)
      refine ⟨fun i hi => by show z.cps.size ≤ i; simpa [signs, Str.length] using hi, fun i d hd => ?_⟩
      unfold signs at hd
      rw [List.getElem?_map] at hd
      cases e : z.cps.toList[i]? with
      | none => rw [e] at hd; cases hd
      | some c =>
        rw [e] at hd; cases hd
        have hi : i < z.cps.size := by have := (List.getElem?_eq_some_iff.mp e).1; simpa using this
        refine ⟨hi, fun x H2 hy => ?_⟩
        obtain ⟨rfl, c', e1, rfl⟩ := hy
        have e3 : z.cps[i]? = some c := by rw [← Array.getElem?_toList]; exact e
        rw [e3] at e1; cases e1
        refine ⟨Stp.refl _ _, fun _ _ h => h, .str _ ⟨by show 1 ≤ sizeLine; rw [sizeLine_eq]; decide, ?_⟩⟩
        have h2 := hs.2
        unfold PyData.strOk at h2 ⊢
        rw [Array.all_eq_true] at h2
        have := h2 i hi
        rw [Array.getElem?_eq_getElem hi] at e3
        cases e3
        simpa using this
  | _ => exact (show False from q1).elim
theorem wk_rng {lo : Int} {n : Nat} : Wk K (Itr lo n) ((List.range n).map fun i => .int (lo + (i : Nat))) (fun _ => True) al H := by
  intro al' H' O' s rel _
  refine ⟨fun i hi => by show n ≤ i; simpa using hi, fun i d hd => ?_⟩
  rw [List.getElem?_map] at hd
  cases e : (List.range n)[i]? with
  | none => rw [e] at hd; cases hd
  | some c =>
    rw [e] at hd; cases hd
    have hi : i < n := by have := (List.getElem?_eq_some_iff.mp e).1; simpa using this
    rw [List.getElem?_range hi] at e
    cases e
    refine ⟨hi, fun x H2 hy => ?_⟩
    obtain ⟨rfl, rfl⟩ := hy
    exact ⟨Stp.refl _ _, fun _ _ h => h, .int _⟩
theorem rd_rng1 {n : Nat} {ta : TA} {t : TAX} (h : RdA K W n ta t) (hn : n = 1) : RdI K W (iRng1 ta) (xRng t) := by
  intro al H σ G O Q E R rel env q hq he
  refine h al H σ G O _ E _ rel env q (fun al1 H1 O1 vs ds s1 rel1 r1 hl q1 => ?_) he
  subst hn
  match ds, hl with
  | [d], _ =>
    cases r1 with
    | cons r r' =>
      cases r'
      cases d with
      | int n =>
        cases r
        obtain ⟨h1, h2, h3⟩ := q1
        refine ⟨n, rfl, h1, by omega, hq _ _ _ _ _ _ s1 rel1 (wk_rng (lo := 0) (n := n.toNat)) (by rw [List.length_map, List.length_range, sizeLine_eq]; omega) ?_⟩
        simpa using h3
      | _ => exact (show False from q1).elim
theorem rd_rng2 {n : Nat} {ta : TA} {t : TAX} (h : RdA K W n ta t) (hn : n = 2) : RdI K W (iRng2 ta) (xRng t) := by
  intro al H σ G O Q E R rel env q hq he
  refine h al H σ G O _ E _ rel env q (fun al1 H1 O1 vs ds s1 rel1 r1 hl q1 => ?_) he
  subst hn
  match ds, hl with
  | [d, e], _ =>
    cases r1 with
    | cons r r' =>
      cases r' with
      | cons r2 r3 =>
        cases r3
        cases d with
        | int a =>
          cases e with
          | int b =>
            cases r; cases r2
            obtain ⟨⟨h1, h2, h3, h4, h5⟩, h6⟩ := q1
            exact ⟨a, b, rfl, ⟨h1, h2, h3, h4⟩, hq _ _ _ _ _ _ s1 rel1 (wk_rng (lo := a) (n := (b - a).toNat)) (by rw [List.length_map, List.length_range, sizeLine_eq]; omega) h6⟩
          | _ => exact (show False from q1).elim
        | _ => exact (show False from q1).elim
theorem enumD_get : ∀ (ds : List D) (j i : Nat) (d : D), (enumD j ds)[i]? = some d → ∃ e, ds[i]? = some e ∧ d = .tup [.int ((j + i : Nat) : Int), e]
  | [], j, i, d, h => by simp [enumD] at h
  | e :: es, j, 0, d, h => by simp [enumD] at h; exact ⟨e, rfl, by rw [← h]; rfl⟩
  | e :: es, j, i + 1, d, h => by
    have h' : (enumD (j + 1) es)[i]? = some d := by simpa [enumD] using h
    obtain ⟨x, h1, h2⟩ := enumD_get es (j + 1) i d h'
    exact ⟨x, by simpa using h1, by rw [h2, Nat.add_assoc, Nat.add_comm 1 i]⟩
theorem enumD_len : ∀ (ds : List D) (j : Nat), (enumD j ds).length = ds.length
  | [], _ => rfl
  | _ :: ds, j => by show (enumD (j + 1) ds).length + 1 = _; rw [enumD_len ds]; rfl
theorem zipD_get : ∀ (ds es : List D) (i : Nat) (d : D), (zipD ds es)[i]? = some d → ∃ x y, ds[i]? = some x ∧ es[i]? = some y ∧ d = .tup [x, y]
  | [], es, i, d, h => by simp [zipD] at h
  | _ :: _, [], i, d, h => by simp [zipD] at h
  | x :: xs, y :: ys, 0, d, h => by simp [zipD] at h; exact ⟨x, y, rfl, rfl, h.symm⟩
  | x :: xs, y :: ys, i + 1, d, h => by
    have h' : (zipD xs ys)[i]? = some d := by simpa [zipD] using h
    obtain ⟨a, b, h1, h2, h3⟩ := zipD_get xs ys i d h'
    exact ⟨a, b, by simpa using h1, by simpa using h2, h3⟩
theorem zipD_len : ∀ (ds es : List D), (zipD ds es).length = min ds.length es.length
  | [], _ => by simp [zipD]
  | _ :: _, [] => by simp [zipD]
  | _ :: ds, _ :: es => by show (zipD ds es).length + 1 = _; rw [zipD_len ds es]; simp only [List.length_cons]; omega
def iEnum1 (K : PySem.W.Frag) (te : TE) : TI := iEnum K (tCons te tNil)
theorem rd_enum {te : TE} {t : TX} (h : RdE K W te t) : RdI K W (iEnum K (tCons te tNil)) (xEnum t) := by
  intro al H σ G O Q E R rel env q hq he
  refine h al H σ G O _ E _ rel env q (fun al1 H1 O1 v d s1 rel1 r1 q1 => ?_) he
  obtain ⟨a, ds, grd, rfl, q2, g, hl⟩ := lst_later rel1 r1 q1
  obtain ⟨xs, a1, a2, a3⟩ := hl al1 H1 O1 (.refl _ _) rel1 g
  refine ⟨a, xs, rfl, a1, hq _ _ _ _ _ _ s1 rel1 (fun al' H' O' s rel' g' => ?_) (by rw [enumD_len, ← a2.length]; exact a3) q2⟩
  obtain ⟨ys, b1, b2, b3⟩ := hl al' H' O' s rel' g'
  refine ⟨fun i hi => ⟨ys, b1, by rw [b2.length, ← enumD_len ds 0]; exact hi⟩, fun i d hd => ?_⟩
  obtain ⟨e, h1, rfl⟩ := enumD_get ds 0 i d hd
  obtain ⟨w, h2, h3⟩ := b2.get h1
  refine ⟨⟨ys, w, b1, h2⟩, fun x H2 hy => ?_⟩
  obtain ⟨T, y, rfl, hT, rfl, hy⟩ := hy
  have e2 := hy ys b1
  rw [h2] at e2; cases e2
  refine ⟨stp_new rel'.live hT, upd_keep hT, new_tup rel' hT (.cons ?_ (.cons h3 .nil)) (by show 2 ≤ sizeLine; rw [sizeLine_eq]; decide)⟩
  rw [Nat.zero_add]
  exact .int _
theorem rd_zip {ta tb : TE} {a b : TX} (ha : RdE K W ta a) (hb : RdE K W tb b) : RdI K W (iZip K (tCons ta (tCons tb tNil))) (xZip a b) := by
  intro al H σ G O Q E R rel env q hq he
  refine ha al H σ G O _ E _ rel env q (fun al1 H1 O1 v d s1 rel1 r1 q1 => ?_) he
  refine hb al1 H1 σ G O1 _ E _ rel1 (env.mono s1) q1 (fun al2 H2 O2 w e s2 rel2 r2 q2 => ?_) (fun _ _ _ _ _ _ s' => he _ _ _ _ _ _ (s1.trans s'))
  obtain ⟨a1, ds, g1, rfl, q3, gg1, l1⟩ := lst_later rel2 (r1.mono s2) q2
  obtain ⟨a2, es, g2, rfl, q4, gg2, l2⟩ := lst_later rel2 r2 q3
  obtain ⟨xs, b1, b2, b3⟩ := l1 al2 H2 O2 (.refl _ _) rel2 gg1
  obtain ⟨ys, c1, c2, c3⟩ := l2 al2 H2 O2 (.refl _ _) rel2 gg2
  refine ⟨a1, a2, xs, ys, rfl, b1, c1, hq _ _ _ _ _ _ (s1.trans s2) rel2 (fun al' H' O' s rel' g' => ?_) (by rw [zipD_len, ← b2.length]; omega) q4⟩
  obtain ⟨xs', d1, d2, d3⟩ := l1 al' H' O' s rel' g'.1
  obtain ⟨ys', e1, e2, e3⟩ := l2 al' H' O' s rel' g'.2
  refine ⟨fun i hi => ⟨xs', ys', d1, e1, ?_⟩, fun i d hd => ?_⟩
  · rw [zipD_len] at hi
    rw [d2.length, e2.length]; omega
  · obtain ⟨x, y, h1, h2, rfl⟩ := zipD_get ds es i d hd
    obtain ⟨v1, f1, f2⟩ := d2.get h1
    obtain ⟨v2, f3, f4⟩ := e2.get h2
    refine ⟨⟨xs', ys', v1, v2, d1, e1, f1, f3⟩, fun z H3 hy => ?_⟩
    obtain ⟨T, z1, z2, rfl, hT, rfl, hy1, hy2⟩ := hy
    have k1 := hy1 xs' d1
    have k2 := hy2 ys' e1
    rw [f1] at k1; cases k1
    rw [f3] at k2; cases k2
    exact ⟨stp_new rel'.live hT, upd_keep hT, new_tup rel' hT (.cons f2 (.cons f4 .nil)) (by show 2 ≤ sizeLine; rw [sizeLine_eq]; decide)⟩
end
section
variable {X : Cx} {W : WX} {tg e a b : Expr} {p pos tpos : Pos} {elts : List Expr} {kk : Nat}
theorem pix_walk {t : TX} (h : PX X W e t) : PIX X W tg e (xWalk t) := let ⟨_, p, q⟩ := h; ⟨_, pi_any p, rd_walk q⟩
theorem pix_rng1 {t : TAX} (hg : Gl X "range") (hm : X.mg "range" = none) (h : PAX X W [a] t) (hs : starEach [a] X.env = [(false, eval a X.env)] := by rfl) : PIX X W tg (.Call (.Name "range" p) [a] [] pos) (xRng t) := let ⟨_, p, q⟩ := h; ⟨_, pi_range1 hg hm p hs, rd_rng1 q rfl⟩
theorem pix_rng2 {t : TAX} (hg : Gl X "range") (hm : X.mg "range" = none) (h : PAX X W [a, b] t) (hs : starEach [a, b] X.env = [(false, eval a X.env), (false, eval b X.env)] := by rfl) (hs2 : starEach [b] X.env = [(false, eval b X.env)] := by rfl) : PIX X W tg (.Call (.Name "range" p) [a, b] [] pos) (xRng t) := let ⟨_, p, q⟩ := h; ⟨_, pi_range2 hg hm p hs hs2, rd_rng2 q rfl⟩
theorem pix_enum {t : TX} (hg : Gl X "enumerate") (hm : X.mg "enumerate" = none) (h : PX X W e t) (hs1 : starEach (e :: []) X.env = (false, eval e X.env) :: starEach [] X.env := by rfl) (hs : starEach [e] X.env = [(false, eval e X.env)] := by rfl) : PIX X W (.Tuple elts kk tpos) (.Call (.Name "enumerate" p) [e] [] pos) (xEnum t) := let ⟨_, p, q⟩ := h; ⟨_, pi_enum hg hm (pa_cons p pa_nil hs1) hs, rd_enum q⟩
theorem pix_zip {t u : TX} (hg : Gl X "zip") (hm : X.mg "zip" = none) (h : PX X W a t) (h2 : PX X W b u) (hs1 : starEach (a :: [b]) X.env = (false, eval a X.env) :: starEach [b] X.env := by rfl) (hs2 : starEach (b :: []) X.env = (false, eval b X.env) :: starEach [] X.env := by rfl) (hpl : (backTo pos (starEach [b] X.env)).any (·.1) = false := by rfl) :
    PIX X W (.Tuple elts kk tpos) (.Call (.Name "zip" p) [a, b] [] pos) (xZip t u) := let ⟨_, p, q⟩ := h; let ⟨_, p2, q2⟩ := h2; ⟨_, pi_zip hg hm (pa_cons p (pa_cons p2 pa_nil hs2) hs1) hs1 hpl, rd_zip q q2⟩
end
end Px

namespace Px
open PySem PySem.Spec PyProof.Rows L2

def dIx (d e : D) (O : Om) (Q : QX) : Prop := match e with
  | .int i => match d with
    | .str z => optK (atI z.cps.toList i) fun c => Q (.str ⟨#[c]⟩) O
    | d => optK (seqD O d) fun ds => optK (atI ds i) fun x => Q x O
  | _ => False
section
variable {K : PySem.W.Frag} {al : AL} {H : Hp} {O : Om}
theorem atI_rp {xs : List V} {ds : List D} {i : Int} {x : D} (r : RpA K al H xs ds) (h : atI ds i = some x) : ∃ v, atI xs i = some v ∧ Rp K al H v x := by
  unfold atI at h ⊢
  rw [r.length]
  cases e : ixN ds.length i with
  | none => rw [e] at h; cases h
  | some j => rw [e] at h; exact r.get h
theorem sok_sub {z : Str} {l : List Nat} (h : SOk z) (hl : l.length ≤ z.cps.toList.length) (hm : ∀ c ∈ l, c ∈ z.cps.toList) : SOk ⟨l.toArray⟩ := by
  refine ⟨?_, ?_⟩
  · show l.toArray.size ≤ sizeLine
    have := h.1
    rw [Str.length] at this
    rw [List.size_toArray]
    simp at hl
    omega
  · have h2 := h.2
    unfold PyData.strOk at h2 ⊢
    have h3 : ∀ c ∈ z.cps.toList, c < 0x110000 := fun c hc => by
      rw [Array.all_eq_true_iff_forall_mem] at h2
      exact of_decide_eq_true (h2 c (by simpa using hc))
    rw [Array.all_eq_true_iff_forall_mem]
    intro c hc
    exact decide_eq_true (h3 c (hm c (by simpa using hc)))
theorem atI_mem {α : Type} {xs : List α} {i : Int} {x : α} (h : atI xs i = some x) : x ∈ xs := by
  obtain ⟨j, _, h2, _⟩ := atI_get h
  exact List.mem_of_getElem? h2
theorem rd_ix : RdO2 K (rIx K) dIx := by
  intro al H O x y d e Q R rel rx ry h hq
  cases e with
  | int i =>
    cases ry
    have seqCase : (optK (seqD O d) fun ds => optK (atI ds i) fun x => Q x O) → rIx K x (.int i) H R := fun h => by
      obtain ⟨ds, h1, h⟩ := h.ex
      obtain ⟨z, h2, h3⟩ := h.ex
      obtain ⟨a, xs, rfl, hs, hr, _⟩ := seqD_rp rel rx h1
      obtain ⟨v, e1, r⟩ := atI_rp hr h2
      rcases hs with hs | hs
      · exact .inl ⟨a, xs, i, v, rfl, rfl, hs, e1, hq _ _ _ _ _ (Stp.refl _ _) rel r h3⟩
      · exact .inr (.inl ⟨a, xs, i, v, rfl, rfl, hs, e1, hq _ _ _ _ _ (Stp.refl _ _) rel r h3⟩)
    cases d with
    | str z =>
      cases rx with
      | str _ hs =>
        obtain ⟨c, h1, h2⟩ := optK.ex h
        have hm := atI_mem h1
        refine .inr (.inr ⟨z, i, c, rfl, rfl, hs.1, h1, hq _ _ _ _ _ (Stp.refl _ _) rel (.str _ ?_) h2⟩)
        exact sok_sub (l := [c]) hs (by obtain ⟨j, _, hj, hl, _⟩ := atI_get h1; simp at hl ⊢; omega) (fun c' hc' => by rw [List.mem_singleton.mp hc']; exact hm)
    | _ => exact seqCase h
  | _ => exact (show False from h).elim
abbrev sIx := HT.sIx
def cutD (xs : List D) (lo hi : Option Int) : List D := (xs.drop (HT.sIx xs.length 0 lo)).take (HT.sIx xs.length xs.length hi - HT.sIx xs.length 0 lo)
theorem cut_rp {xs : List V} {ds : List D} {lo hi : Option Int} (r : RpA K al H xs ds) : RpA K al H (cutV xs lo hi) (cutD ds lo hi) := by
  unfold cutV cutD
  rw [r.length]
  exact (r.drop _).take _
end
def dSl (d : D) (lo hi : Option Int) (O : Om) (Q : QX) : Prop := match d with
  | .str z => Q (.str (cutS z lo hi)) O
  | .tup ds => ¬ (HT.sIx ds.length 0 lo = 0 ∧ HT.sIx ds.length ds.length hi = ds.length) ∧ Q (.tup (cutD ds lo hi)) O
  | d => optK (lstD O d) fun ds => Q (.lst (cutD ds lo hi)) O
abbrev TOX := Gam → Om → (Option Int → Om → Prop) → EX → Prop
def xoNone : TOX := fun _ O Q _ => Q none O
def dInt (d : D) (Q : Int → Prop) : Prop := match d with
  | .int i => Q i
  | _ => False
def xoSome (t : TX) : TOX := fun G O Q E => t G O (fun d O1 => dInt d fun i => Q (some i) O1) E
def xSl (a : TX) (l u : TOX) : TX := fun G O Q E => a G O (fun d O1 => l G O1 (fun lo O2 => u G O2 (fun hi O3 => dSl d lo hi O3 Q) E) E) E
def RdO (K : PySem.W.Frag) (W : WX) (to : TO) (t : TOX) : Prop := ∀ (al : AL) (H : Hp) (σ : L2.St) (G : Gam) (O : Om) (Q : Option Int → Om → Prop) (E : EX) (R : Option Int → Hp → Prop), Rel K al H O → EnvR K al H σ G → t G O Q E →
  (∀ al' H' O' i, Stp al H al' H' → Rel K al' H' O' → Q i O' → R i H') →
  (∀ al' H' O' x cls dd, Stp al H al' H' → Rel K al' H' O' → ExR K al' H' x cls dd → E x O' → W cls dd σ H') → to σ H R
def POX (X : Cx) (W : WX) (e : Option Expr) (t : TOX) : Prop := ∃ to, PO X e to ∧ RdO X.K W to t
def rSlAny (K : PySem.W.Frag) : V → Option Int → Option Int → Hp → VK → Prop := fun x lo hi H Q => rSlL K x lo hi H Q ∨ rSlT K x lo hi H Q ∨ rSlS x lo hi H Q
section
variable {K : PySem.W.Frag} {W : WX}
theorem rd_oNone : RdO K W tNoPart xoNone := fun al H σ G O Q E R rel env h hq _ => hq _ _ _ _ (Stp.refl _ _) rel h
theorem rd_oSome {te : TE} {t : TX} (h : RdE K W te t) : RdO K W (tPart te) (xoSome t) := by
  intro al H σ G O Q E R rel env q hq he
  refine h al H σ G O _ E _ rel env q (fun al1 H1 O1 v d s1 rel1 r1 q1 => ?_) he
  cases d with
  | int i => cases r1; exact ⟨i, rfl, hq _ _ _ _ s1 rel1 q1⟩
  | _ => exact (show False from q1).elim
theorem rd_sl {te : TE} {tl th : TO} {a : TX} {l u : TOX} (ha : RdE K W te a) (hl : RdO K W tl l) (hu : RdO K W th u) : RdE K W (tSl (rSlAny K) te tl th) (xSl a l u) := by
  intro al H σ G O Q E R rel env q hq he
  refine ha al H σ G O _ E _ rel env q (fun al1 H1 O1 v d s1 rel1 r1 q1 => ?_) he
  refine hl al1 H1 σ G O1 _ E _ rel1 (env.mono s1) q1 (fun al2 H2 O2 lo s2 rel2 q2 => ?_) (fun _ _ _ _ _ _ s' => he _ _ _ _ _ _ (s1.trans s'))
  have s12 := s1.trans s2
  refine hu al2 H2 σ G O2 _ E _ rel2 (env.mono s12) q2 (fun al3 H3 O3 hi s3 rel3 q3 => ?_) (fun _ _ _ _ _ _ s' => he _ _ _ _ _ _ (s12.trans s'))
  have s13 := s12.trans s3
  have r3 := r1.mono (s2.trans s3)
  have lstCase : (optK (lstD O3 d) fun ds => Q (.lst (cutD ds lo hi)) O3) → rSlAny K v lo hi H3 R := fun h => by
    obtain ⟨ds, e1, e2⟩ := h.ex
    obtain ⟨a, xs, rfl, hs, hr, hz⟩ := lstD_rp rel3 r3 e1
    exact .inl ⟨a, xs, rfl, hs, fun p hp => hq _ _ _ _ _ (s13.trans (stp_new rel3.live hp)) (rel3.new hp) (new_lst rel3 hp (cut_rp hr) (Nat.le_trans (cutV_length xs lo hi) hz)) e2⟩
  cases d with
  | str z =>
    cases r3 with
    | str _ hs =>
      refine .inr (.inr ⟨z, rfl, hs.1, hq _ _ _ _ _ s13 rel3 (.str _ ?_) q3⟩)
      refine sok_sub hs ?_ fun c hc => ?_
      · rw [List.length_take, List.length_drop]; omega
      · exact List.mem_of_mem_drop (List.mem_of_mem_take hc)
  | tup ds =>
    obtain ⟨a, xs, rfl, hs, hr, hz⟩ := r3.tupI
    obtain ⟨e1, e2⟩ := q3
    refine .inr (.inl ⟨a, xs, rfl, hs, by rw [hr.length]; exact e1, fun p hp => hq _ _ _ _ _ (s13.trans (stp_new rel3.live hp)) (rel3.new hp) (new_tup rel3 hp (cut_rp hr) (Nat.le_trans (cutV_length xs lo hi) hz)) e2⟩)
  | _ => exact lstCase q3
end
section
variable {X : Cx} {W : WX} {a b : Expr} {lo hi : Option Expr} {pos p2 : Pos}
theorem px_ix {xa xb : TX} (ha : PX X W a xa) (hb : PX X W b xb) (hs : PlainIx b := by exact fun _ _ => rfl) : PX X W (.Subscript a b pos) (xOp dIx xa xb) := let ⟨_, p, q⟩ := ha; let ⟨_, p2, q2⟩ := hb; ⟨_, pe_ix ix_seq p p2 hs, rd_op rd_ix q q2⟩
theorem pox_none : POX X W none xoNone := ⟨_, po_none, rd_oNone⟩
theorem pox_some {t : TX} (h : PX X W a t) : POX X W (some a) (xoSome t) := let ⟨_, p, q⟩ := h; ⟨_, po_some p, rd_oSome q⟩
theorem px_sl {xa : TX} {l u : TOX} (ha : PX X W a xa) (hl : POX X W lo l) (hu : POX X W hi u) : PX X W (.Subscript a (.Slice lo hi none p2) pos) (xSl xa l u) := let ⟨_, p, q⟩ := ha; let ⟨_, p1, q1⟩ := hl; let ⟨_, p2, q2⟩ := hu; ⟨_, pe_slice (SlR.or sl_list (SlR.or sl_tup sl_str)) p p1 p2, rd_sl q q1 q2⟩
end

def dLen1 (d : D) (O : Om) (Q : QX) : Prop := match d with
  | .str x => Q (.int (x.length : Nat)) O
  | d => optK (seqD O d) fun es => Q (.int (es.length : Nat)) O
def dLen (ds : List D) (O : Om) (Q : QX) : Prop := match ds with
  | [d] => dLen1 d O Q
  | _ => False
def dIntOf (ds : List D) (O : Om) (Q : QX) : Prop := match ds with
  | [.int i] => Q (.int i) O
  | [.bl b] => Q (.int (if b then 1 else 0)) O
  | _ => False
def dStrOf (ds : List D) (O : Om) (Q : QX) : Prop := match ds with
  | [.int i] => 0 ≤ i ∧ i < 10 ^ 100 ∧ Q (.str (Str.ofString (toString i))) O
  | _ => False
def D.ints : List D → Option (List Int)
  | [] => some []
  | .int i :: ds => (D.ints ds).map (i :: ·)
  | _ => none
def D.bools : List D → Option (List Bool)
  | [] => some []
  | .bl i :: ds => (D.bools ds).map (i :: ·)
  | _ => none
def D.strs : List D → Option (List Str)
  | [] => some []
  | .str i :: ds => (D.strs ds).map (i :: ·)
  | _ => none
def dSum (ds : List D) (O : Om) (Q : QX) : Prop := match ds with
  | [d] => optK (lstD O d) fun es => optK (D.ints es) fun ns => Q (.int ns.sum) O
  | _ => False
def dAll (ds : List D) (O : Om) (Q : QX) : Prop := match ds with
  | [d] => optK (lstD O d) fun es => optK (D.bools es) fun ns => Q (.bl (ns.all id)) O
  | _ => False
def dAny (ds : List D) (O : Om) (Q : QX) : Prop := match ds with
  | [d] => optK (lstD O d) fun es => optK (D.bools es) fun ns => Q (.bl (ns.any id)) O
  | _ => False
def dListOf (ds : List D) (O : Om) (Q : QX) : Prop := match ds with
  | [d] => optK (seqD O d) fun es => Q (.lst es) O
  | _ => False
def dTupOf1 (d : D) (O : Om) (Q : QX) : Prop := match d with
  | .tup es => Q (.tup es) O
  | d => optK (lstD O d) fun es => Q (.tup es) O
def dTupOf (ds : List D) (O : Om) (Q : QX) : Prop := match ds with
  | [d] => dTupOf1 d O Q
  | _ => False
def dMin2 (ds : List D) (O : Om) (Q : QX) : Prop := match ds with
  | [.int i, .int j] => Q (.int (if j < i then j else i)) O
  | _ => False
def dMax2 (ds : List D) (O : Om) (Q : QX) : Prop := match ds with
  | [.int i, .int j] => Q (.int (if j > i then j else i)) O
  | _ => False
section
variable {K : PySem.W.Frag} {al : AL} {H : Hp} {O : Om}
theorem RpA.one {xs : List V} {d : D} (r : RpA K al H xs [d]) : ∃ v, xs = [v] ∧ Rp K al H v d := by
  cases r with
  | cons h t => cases t; exact ⟨_, rfl, h⟩
theorem RpA.two {xs : List V} {d e : D} (r : RpA K al H xs [d, e]) : ∃ v w, xs = [v, w] ∧ Rp K al H v d ∧ Rp K al H w e := by
  cases r with
  | cons h t => obtain ⟨w, rfl, h2⟩ := t.one; exact ⟨_, w, rfl, h, h2⟩
theorem RpA.intsI : ∀ {es : List D} {xs : List V} {ns : List Int}, RpA K al H xs es → D.ints es = some ns → xs = ns.map V.int
  | [], xs, ns, r, h => by cases h; cases r; rfl
  | .int i :: es, xs, ns, r, h => by
    simp only [D.ints, Option.map_eq_some_iff] at h
    obtain ⟨ms, h1, rfl⟩ := h
    cases r with
    | cons r1 r2 => cases r1; rw [RpA.intsI r2 h1]; rfl
theorem RpA.boolsI : ∀ {es : List D} {xs : List V} {ns : List Bool}, RpA K al H xs es → D.bools es = some ns → xs = ns.map V.bl
  | [], xs, ns, r, h => by cases h; cases r; rfl
  | .bl i :: es, xs, ns, r, h => by
    simp only [D.bools, Option.map_eq_some_iff] at h
    obtain ⟨ms, h1, rfl⟩ := h
    cases r with
    | cons r1 r2 => cases r1; rw [RpA.boolsI r2 h1]; rfl
theorem RpA.strsI : ∀ {es : List D} {xs : List V} {ns : List Str}, RpA K al H xs es → D.strs es = some ns → xs = ns.map V.str ∧ ∀ x ∈ ns, SOk x
  | [], xs, ns, r, h => by cases h; cases r; exact ⟨rfl, fun _ h => by cases h⟩
  | .str i :: es, xs, ns, r, h => by
    simp only [D.strs, Option.map_eq_some_iff] at h
    obtain ⟨ms, h1, rfl⟩ := h
    cases r with
    | cons r1 r2 =>
      cases r1 with
      | str _ hs =>
        obtain ⟨e, hm⟩ := RpA.strsI r2 h1
        exact ⟨by rw [e]; rfl, fun x hx => by rcases List.mem_cons.mp hx with z | z; rw [z]; exact hs; exact hm x z⟩
theorem digits_lt (m : Nat) : ∀ c ∈ (Nat.toDigits 10 m).map Char.toNat, c < 58 ∧ 48 ≤ c := by
  intro c hc
  obtain ⟨ch, h1, rfl⟩ := List.mem_map.mp hc
  have h := Nat.isDigit_of_mem_toDigits (b := 10) (by decide) (by decide) h1
  unfold Char.isDigit at h
  simp only [Bool.and_eq_true, decide_eq_true_eq, ge_iff_le] at h
  have h2 : ch.val.toNat ≤ 57 := h.2
  have h3 : 48 ≤ ch.val.toNat := h.1
  show ch.val.toNat < 58 ∧ 48 ≤ ch.val.toNat
  omega
theorem sok_toString {i : Int} (h0 : 0 ≤ i) (h : i < 10 ^ 100) : SOk (Str.ofString (toString i)) := by
  refine ⟨Nat.le_trans (PyProof.Rows.toString_length_le h0 (by decide) h) (by rw [sizeLine_eq]; decide), ?_⟩
  obtain ⟨m, rfl⟩ := Int.eq_ofNat_of_zero_le h0
  rw [show ((m : Nat) : Int) = Int.ofNat m from rfl, PyProof.Rows.text_ofNat m]
  unfold PyData.strOk
  rw [Array.all_eq_true_iff_forall_mem]
  intro c hc
  have := digits_lt m c (by simpa using hc)
  exact decide_eq_true (by omega)
end
section
variable {X : Cx}
theorem f_len : FO X (.builtin "len") dLen := ⟨_, CallR.or call_len_seq call_len_str, fun al H O xs ds Q R rel r h hq => by
  match ds, h with
  | [d], h =>
    obtain ⟨v, rfl, rv⟩ := r.one
    have seqCase : (optK (seqD O d) fun es => Q (.int (es.length : Nat)) O) → ∃ p ys, [v] = [V.ref p] ∧ (SqL X.K H p ys ∨ SqT X.K H p ys) ∧ R (.int ys.length) H := fun h => by
      obtain ⟨es, e1, e2⟩ := h.ex
      obtain ⟨a, ys, rfl, hs, hr, _⟩ := seqD_rp rel rv e1
      exact ⟨a, ys, rfl, hs, by rw [hr.length]; exact hq _ _ _ _ _ (Stp.refl _ _) rel (.int _) e2⟩
    cases d with
    | str x =>
      cases rv with
      | str _ hs => exact .inr ⟨x, rfl, hs.1, hq _ _ _ _ _ (Stp.refl _ _) rel (.int _) h⟩
    | _ => exact .inl (seqCase h)⟩
theorem f_int : FO X (.type "int") dIntOf := ⟨_, call_int1, fun al H O xs ds Q R rel r h hq => by
  match ds, h with
  | [.int i], h => obtain ⟨v, rfl, rv⟩ := r.one; cases rv; exact .inl ⟨i, rfl, hq _ _ _ _ _ (Stp.refl _ _) rel (.int _) h⟩
  | [.bl b], h => obtain ⟨v, rfl, rv⟩ := r.one; cases rv; exact .inr ⟨b, rfl, hq _ _ _ _ _ (Stp.refl _ _) rel (.int _) h⟩⟩
theorem log_ok {i : Int} (h0 : 0 ≤ i) (h : i < 10 ^ 100) : i.natAbs.log2 < 1920 := by
  by_cases z : i.natAbs = 0
  · rw [z]; decide
  · rw [Nat.log2_lt z]
    have h2 : i.natAbs < 10 ^ 100 := by omega
    exact Nat.lt_trans h2 (by decide)
theorem f_str : FO X (.type "str") dStrOf := ⟨_, call_str_int, fun al H O xs ds Q R rel r h hq => by
  match ds, h with
  | [.int i], h => obtain ⟨v, rfl, rv⟩ := r.one; cases rv; exact ⟨i, rfl, log_ok h.1 h.2.1, hq _ _ _ _ _ (Stp.refl _ _) rel (.str _ (sok_toString h.1 h.2.1)) h.2.2⟩⟩
theorem f_sum (hc : X.calm = true) : FO X (.builtin "sum") dSum := ⟨_, cr_sum hc, fun al H O xs ds Q R rel r h hq => by
  match ds, h with
  | [d], h =>
    obtain ⟨v, rfl, rv⟩ := r.one
    obtain ⟨es, e1, h⟩ := optK.ex h
    obtain ⟨ns, e2, e3⟩ := optK.ex h
    obtain ⟨a, ys, rfl, hs, hr, _⟩ := lstD_rp rel rv e1
    have e := hr.intsI e2
    subst e
    exact ⟨a, ns, rfl, hs, hq _ _ _ _ _ (Stp.refl _ _) rel (.int _) e3⟩⟩
theorem f_all (hc : X.calm = true) : FO X (.builtin "all") dAll := ⟨_, cr_all hc, fun al H O xs ds Q R rel r h hq => by
  match ds, h with
  | [d], h =>
    obtain ⟨v, rfl, rv⟩ := r.one
    obtain ⟨es, e1, h⟩ := optK.ex h
    obtain ⟨ns, e2, e3⟩ := optK.ex h
    obtain ⟨a, ys, rfl, hs, hr, _⟩ := lstD_rp rel rv e1
    have e := hr.boolsI e2
    subst e
    exact ⟨a, ns, rfl, hs, hq _ _ _ _ _ (Stp.refl _ _) rel (.bl _) e3⟩⟩
theorem f_any (hc : X.calm = true) : FO X (.builtin "any") dAny := ⟨_, cr_any hc, fun al H O xs ds Q R rel r h hq => by
  match ds, h with
  | [d], h =>
    obtain ⟨v, rfl, rv⟩ := r.one
    obtain ⟨es, e1, h⟩ := optK.ex h
    obtain ⟨ns, e2, e3⟩ := optK.ex h
    obtain ⟨a, ys, rfl, hs, hr, _⟩ := lstD_rp rel rv e1
    have e := hr.boolsI e2
    subst e
    exact ⟨a, ns, rfl, hs, hq _ _ _ _ _ (Stp.refl _ _) rel (.bl _) e3⟩⟩
theorem f_list : FO X (.type "list") dListOf := ⟨_, call_list_of, fun al H O xs ds Q R rel r h hq => by
  match ds, h with
  | [d], h =>
    obtain ⟨v, rfl, rv⟩ := r.one
    obtain ⟨es, e1, e2⟩ := optK.ex h
    obtain ⟨a, ys, rfl, hs, hr, hz⟩ := seqD_rp rel rv e1
    exact ⟨a, ys, rfl, hs, fun p hp => hq _ _ _ _ _ (stp_new rel.live hp) (rel.new hp) (new_lst rel hp hr hz) e2⟩⟩
theorem f_tuple : FO X (.type "tuple") dTupOf := ⟨_, call_tuple_of, fun al H O xs ds Q R rel r h hq => by
  match ds, h with
  | [d], h =>
    obtain ⟨v, rfl, rv⟩ := r.one
    have lstCase : (optK (lstD O d) fun es => Q (.tup es) O) → ∃ p ys, [v] = [V.ref p] ∧ ((SqL X.K H p ys ∧ ∀ l, H l = none → R (.ref l) (upd H l (.tup ys))) ∨ (SqT X.K H p ys ∧ R (.ref p) H)) := fun h => by
      obtain ⟨es, e1, e2⟩ := h.ex
      obtain ⟨a, ys, rfl, hs, hr, hz⟩ := lstD_rp rel rv e1
      exact ⟨a, ys, rfl, Or.inl ⟨hs, fun p hp => hq _ _ _ _ _ (stp_new rel.live hp) (rel.new hp) (new_tup rel hp hr hz) e2⟩⟩
    cases d with
    | tup es =>
      obtain ⟨a, ys, e, hs, _⟩ := rv.tupI
      refine ⟨a, ys, by rw [e], Or.inr ⟨hs, ?_⟩⟩
      rw [← e]
      exact hq _ _ _ _ _ (Stp.refl _ _) rel rv h
    | _ => exact lstCase h⟩
theorem f_min2 (hc : X.calm = true) : FO X (.builtin "min") dMin2 := ⟨_, call_min2 hc, fun al H O xs ds Q R rel r h hq => by
  match ds, h with
  | [.int i, .int j], h => obtain ⟨v, w, rfl, r1, r2⟩ := r.two; cases r1; cases r2; exact ⟨i, j, rfl, hq _ _ _ _ _ (Stp.refl _ _) rel (.int _) h⟩⟩
theorem f_max2 (hc : X.calm = true) : FO X (.builtin "max") dMax2 := ⟨_, call_max2 hc, fun al H O xs ds Q R rel r h hq => by
  match ds, h with
  | [.int i, .int j], h => obtain ⟨v, w, rfl, r1, r2⟩ := r.two; cases r1; cases r2; exact ⟨i, j, rfl, hq _ _ _ _ _ (Stp.refl _ _) rel (.int _) h⟩⟩
end

inductive Ty where
  | tNone | tBool | tInt | tStr | tTuple | tList | tDict
def Ty.s : Ty → String
  | .tNone => "NoneType"
  | .tBool => "bool"
  | .tInt => "int"
  | .tStr => "str"
  | .tTuple => "tuple"
  | .tList => "list"
  | .tDict => "dict"
def tyC : Cell → Option Ty
  | .lst _ => some .tList
  | .dK _ => some .tDict
  | .dT _ => some .tDict
  | .deck => some .tList
  | _ => none
def tyN (O : Om) : D → Option Ty
  | .non => some .tNone
  | .bl _ => some .tBool
  | .int _ => some .tInt
  | .str _ => some .tStr
  | .tup _ => some .tTuple
  | .lst _ => some .tList
  | .own k => O[k]?.bind tyC
  | .adr _ => none
def subT : Ty → Ty → Bool
  | .tNone, .tNone => true
  | .tBool, .tBool => true
  | .tBool, .tInt => true
  | .tInt, .tInt => true
  | .tStr, .tStr => true
  | .tTuple, .tTuple => true
  | .tList, .tList => true
  | .tDict, .tDict => true
  | _, _ => false
def dIsi (T : Ty) (d : D) (O : Om) (Q : QX) : Prop := optK (tyN O d) fun t => Q (.bl (subT t T)) O
def xIsi (T : Ty) (a : TX) : TX := fun G O Q E => a G O (fun d O1 => dIsi T d O1 Q) E
section
variable {K : PySem.W.Frag} {al : AL} {H : Hp} {O : Om} {W : WX}
theorem kt_ty {a : Addr} {xs : List V} (h : KT K a xs) : ∃ o, K.lookup a = some o ∧ o.cls = .type "tuple" := by
  rcases h with (h | ⟨o, h⟩) | ⟨o, _, _, h1, h2, _⟩
  · cases h
  · cases h
  · exact ⟨o, h1, h2⟩
theorem kl_ty {a : Addr} {xs : List V} (h : KL K a xs) : ∃ o, K.lookup a = some o ∧ o.cls = .type "list" := by
  rcases h with (h | ⟨o, h⟩) | ⟨o, _, _, h1, h2, _⟩
  · cases h
  · cases h
  · exact ⟨o, h1, h2⟩
theorem ty_rp (rel : Rel K al H O) {v : V} {d : D} {t : Ty} (r : Rp K al H v d) (h : tyN O d = some t) : TyX K H v (.type t.s) := by
  cases d with
  | adr _ => cases h
  | non => cases h; cases r; exact .base .non
  | bl b => cases h; cases r; exact .base (.bl b)
  | int b => cases h; cases r; exact .base (.int b)
  | str b => cases h; cases r; exact .base (.str b)
  | tup ds =>
    cases h
    cases r with
    | tup hs _ _ =>
      exact .base (.tup hs.2)
  | lst ds =>
    cases h
    cases r with
    | lst hs _ _ =>
      rcases hs with ⟨_, z | ⟨o, z⟩⟩ | z
      · exact .base (.lst z)
      · exact .base (.frz z)
      · obtain ⟨o, e1, e2⟩ := kl_ty z; exact .kList e1 e2
  | own k =>
    have h' : O[k]?.bind tyC = some t := h
    rw [Option.bind_eq_some_iff] at h'
    obtain ⟨c, e, h'⟩ := h'
    obtain ⟨o, e1, q, hv⟩ := r.ownI rel e
    cases c with
    | lst ds =>
      cases h'
      match o, q with
      | some (a, none), q => obtain rfl := hv _ rfl; obtain ⟨xs, q, _⟩ := q; exact .base (.lst q)
    | dK ds =>
      cases h'
      match o, q with
      | some (a, none), q => obtain rfl := hv _ rfl; obtain ⟨xs, q, _⟩ := q; exact .base (.dK q)
    | dT ds =>
      cases h'
      match o, q with
      | some (a, none), q => obtain rfl := hv _ rfl; obtain ⟨xs, q, _⟩ := q; exact .base (.dT q)
    | deck =>
      cases h'
      match o, q with
      | some (a, some b), q => obtain rfl := hv _ rfl; obtain ⟨ns, t', n, q, _⟩ := q; exact .base (.lst q)
    | _ => exact nomatch h'
def kitOk (T : Ty) : Bool := [Ty.tNone, .tBool, .tInt, .tStr, .tTuple, .tList, .tDict].all fun t => kitB t.s T.s == some (subT t T)
theorem ty_all (t : Ty) : t ∈ [Ty.tNone, .tBool, .tInt, .tStr, .tTuple, .tList, .tDict] := by cases t <;> simp
theorem rd_isi {T : Ty} {te : TE} {a : TX} (hT : kitOk T = true) (h : RdE K W te a) : RdE K W (tCB (rIsi K) (tCons te (tCons (tC (.ty T.s)) tNil))) (xIsi T a) := by
  intro al H σ G O Q E R rel env q hq he
  refine h al H σ G O _ E _ rel env q (fun al1 H1 O1 v d s1 rel1 r1 q1 => ?_) he
  obtain ⟨t, e1, e2⟩ := optK.ex q1
  have hk := List.all_eq_true.mp hT t (ty_all t)
  exact ⟨v, .ty T.s, .type t.s, .type T.s, subT t T, rfl, .ty T.s, ty_rp rel1 r1 e1, kit_ty (beq_iff_eq.mp hk), hq _ _ _ _ _ s1 rel1 (.bl _) e2⟩
end
section
variable {X : Cx} {W : WX} {e : Expr} {p p2 pos : Pos} {x : Str}
theorem px_isi {T : Ty} {t : TX} (hT : kitOk T = true) (hg : Gl X "isinstance") (hm : X.mg "isinstance" = none) (hg2 : Gl X x) (hm2 : X.mg x = none) (hv2 : bootBuiltins x = some (.type T.s)) (h : PX X W e t)
    (hn2 : x ≠ "__name__" := by decide) (hd2 : (x == ("__debug__" : Str)) = false := by decide)
    (hs1 : starEach (e :: [.Name x p2]) X.env = (false, eval e X.env) :: starEach [.Name x p2] X.env := by rfl) (hs2 : starEach (.Name x p2 :: []) X.env = (false, eval (.Name x p2) X.env) :: starEach [] X.env := by rfl) (hpl : (backTo pos (starEach [.Name x p2] X.env)).any (·.1) = false := by rfl) :
    PX X W (.Call (.Name "isinstance" p) [e, .Name x p2] [] pos) (xIsi T t) := let ⟨_, p, q⟩ := h
  ⟨_, pe_callB call_isi hg hm (by decide +kernel) (pa_cons p (pa_cons (pe_bltn (v := .ty T.s) hg2 hm2 hv2 rfl hn2 hd2) pa_nil hs2) hs1) (by decide) (by decide) hs1 hpl, rd_isi hT q⟩
end

def sgnK (x : Str) (Q : Nat → Prop) : Prop := match x.cps.toList with
  | [c] => Q c
  | _ => False
theorem sgnK.ex {x : Str} {Q : Nat → Prop} (h : sgnK x Q) : ∃ c, x = ⟨#[c]⟩ ∧ Q c := by
  obtain ⟨⟨l⟩⟩ := x
  unfold sgnK at h
  match l, h with
  | [c], h => exact ⟨c, rfl, h⟩
def dIn (neg : Bool) (d e : D) (O : Om) (Q : QX) : Prop := match e with
  | .str z => match d with
    | .str x => sgnK x fun c => Q (.bl (neg.xor (decide (c ∈ z.cps.toList)))) O
    | _ => False
  | .tup ds => D.ok 0 d = true ∧ D.oks 0 ds = true ∧ Q (.bl (neg.xor (ds.any fun z => D.eq z d))) O
  | e => optK (lstD O e) fun ds => D.ok 19 d = true ∧ D.oks 19 ds = true ∧ Q (.bl (neg.xor (ds.any fun z => D.eq z d))) O
def dIsN (neg : Bool) (d e : D) (O : Om) (Q : QX) : Prop := match e with
  | .non => match d with
    | .non => Q (.bl (!neg)) O
    | .own k => (∃ c, O[k]? = some c ∧ (match c with | .dead => False | _ => True)) ∧ Q (.bl neg) O
    | _ => Q (.bl neg) O
  | _ => False
section
variable {K : PySem.W.Frag} {al : AL} {H : Hp} {O : Om}
theorem flat_rp {v : V} {d : D} (r : Rp K al H v d) (h : D.ok 0 d = true) : flatV v = true := by
  cases d with
  | tup _ => cases h
  | lst _ => cases h
  | own _ => cases h
  | adr _ => cases h
  | _ => cases r <;> rfl
theorem flats_rp : ∀ {ds : List D} {vs : List V}, RpA K al H vs ds → D.oks 0 ds = true → vs.all flatV = true
  | [], _, r, _ => by cases r; rfl
  | d :: ds, _, r, h => by
    have h' : (D.ok 0 d && D.oks 0 ds) = true := h
    rw [Bool.and_eq_true] at h'
    cases r with
    | cons r1 r2 => rw [List.all_cons, flat_rp r1 h'.1, flats_rp r2 h'.2]; rfl
theorem eqV_rp {v w : V} {d e : D} (r : Rp K al H v d) (r' : Rp K al H w e) (h : D.ok 0 d = true) (h' : D.ok 0 e = true) : eqV v w = D.eq d e := by
  cases d <;> cases e <;> first | (simp [D.ok] at h; done) | (simp [D.ok] at h'; done) | skip
  all_goals cases r <;> cases r' <;> simp [eqV, D.eq]
theorem any_rp {d : D} {v : V} (r : Rp K al H v d) (h : D.ok 0 d = true) : ∀ {ds : List D} {vs : List V}, RpA K al H vs ds → D.oks 0 ds = true → inV v vs = ds.any fun z => D.eq z d
  | [], _, q, _ => by cases q; rfl
  | e :: es, _, q, h' => by
    have h2 : (D.ok 0 e && D.oks 0 es) = true := h'
    rw [Bool.and_eq_true] at h2
    cases q with
    | cons q1 q2 =>
      have ih := any_rp r h q2 h2.2
      unfold inV at ih ⊢
      rw [List.any_cons, List.any_cons, ih, eqV_rp q1 r h2.1 h]
theorem pys_any {d : D} {p : PyData} (hp : d.py = some p) : ∀ {ds : List D} {ps : List PyData}, D.pys ds = some ps → (ps.any fun z => PyData.eqv z p) = ds.any fun z => D.eq z d
  | [], ps, h => by cases h; rfl
  | e :: es, ps, h => by
    simp only [D.pys] at h
    split at h
    · rename_i q qs e1 e2
      cases h
      rw [List.any_cons, List.any_cons, pys_any hp e2, D.py_eqv e d q p e1 hp]
    · cases h
theorem rd_in {K : PySem.W.Frag} : RdO2 K (fun x y H Q => (∃ (c : Nat) (z : Str), x = .str ⟨#[c]⟩ ∧ y = .str z ∧ Q (.bl (decide (c ∈ z.cps.toList))) H) ∨ rInD K x y H Q ∨ rIn K false x y H Q) (dIn false) := by
  intro al H O x y d e Q R rel rx ry h hq
  have lstCase : (optK (lstD O e) fun ds => D.ok 19 d = true ∧ D.oks 19 ds = true ∧ Q (.bl (false.xor (ds.any fun z => D.eq z d))) O) → rInD K x y H R := fun h => by
    obtain ⟨ds, h1, h2, h3, h4⟩ := h.ex
    rw [Bool.false_xor] at h4
    obtain ⟨p, e1, l1⟩ := D.ok_py 19 d (by omega) h2
    obtain ⟨ps, e2, l2⟩ := D.oks_py 19 ds (by omega) h3
    obtain ⟨z1, c1⟩ := Rp.dp d x p rx e1
    obtain ⟨a, xs, rfl, hs, hr, _⟩ := lstD_rp rel ry h1
    obtain ⟨z2, c2⟩ := RpA.dp ds xs ps hr e2
    refine ⟨p, ps, z1, .lst hs z2, ?_, ?_, ?_⟩
    · unfold SeqAt.shaped; rw [c1, decide_eq_true (by omega)]; rfl
    · unfold SeqAt.shaped
      rw [show PyData.canLay0 (.list ps) = true by simpa [PyData.canLay0] using c2, decide_eq_true (by simp only [PyData.depth]; omega)]; rfl
    · rw [pys_any e1 e2]; exact hq _ _ _ _ _ (Stp.refl _ _) rel (.bl _) h4
  cases e with
  | str z =>
    cases d with
    | str w =>
      obtain ⟨c, rfl, h⟩ := sgnK.ex h
      cases rx; cases ry
      have h : Q (.bl (false.xor (decide (c ∈ z.cps.toList)))) O := h
      rw [Bool.false_xor] at h
      exact .inl ⟨c, z, rfl, rfl, hq _ _ _ _ _ (Stp.refl _ _) rel (.bl _) h⟩
    | _ => exact (show False from h).elim
  | tup ds =>
    obtain ⟨h1, h2, h3⟩ := h
    obtain ⟨a, xs, rfl, hs, hr, _⟩ := ry.tupI
    refine .inr (.inr ⟨a, xs, rfl, .inr hs, flat_rp rx h1, flats_rp hr h2, ?_⟩)
    rw [any_rp rx h1 hr h2]
    simp only [Bool.false_xor, Bool.true_xor] at h3
    exact hq _ _ _ _ _ (Stp.refl _ _) rel (.bl _) h3
  | _ => exact .inr (.inl (lstCase h))
theorem rd_notIn {K : PySem.W.Frag} : RdO2 K (fun x y H Q => (∃ (c : Nat) (z : Str), x = .str ⟨#[c]⟩ ∧ y = .str z ∧ Q (.bl (!decide (c ∈ z.cps.toList))) H) ∨ rNotInD K x y H Q ∨ rIn K true x y H Q) (dIn true) := by
  intro al H O x y d e Q R rel rx ry h hq
  have lstCase : (optK (lstD O e) fun ds => D.ok 19 d = true ∧ D.oks 19 ds = true ∧ Q (.bl (true.xor (ds.any fun z => D.eq z d))) O) → rNotInD K x y H R := fun h => by
    obtain ⟨ds, h1, h2, h3, h4⟩ := h.ex
    rw [Bool.true_xor] at h4
    obtain ⟨p, e1, l1⟩ := D.ok_py 19 d (by omega) h2
    obtain ⟨ps, e2, l2⟩ := D.oks_py 19 ds (by omega) h3
    obtain ⟨z1, c1⟩ := Rp.dp d x p rx e1
    obtain ⟨a, xs, rfl, hs, hr, _⟩ := lstD_rp rel ry h1
    obtain ⟨z2, c2⟩ := RpA.dp ds xs ps hr e2
    refine ⟨p, ps, z1, .lst hs z2, ?_, ?_, ?_⟩
    · unfold SeqAt.shaped; rw [c1, decide_eq_true (by omega)]; rfl
    · unfold SeqAt.shaped
      rw [show PyData.canLay0 (.list ps) = true by simpa [PyData.canLay0] using c2, decide_eq_true (by simp only [PyData.depth]; omega)]; rfl
    · rw [pys_any e1 e2]; exact hq _ _ _ _ _ (Stp.refl _ _) rel (.bl _) h4
  cases e with
  | str z =>
    cases d with
    | str w =>
      obtain ⟨c, rfl, h⟩ := sgnK.ex h
      cases rx; cases ry
      have h : Q (.bl (true.xor (decide (c ∈ z.cps.toList)))) O := h
      rw [Bool.true_xor] at h
      exact .inl ⟨c, z, rfl, rfl, hq _ _ _ _ _ (Stp.refl _ _) rel (.bl _) h⟩
    | _ => exact (show False from h).elim
  | tup ds =>
    obtain ⟨h1, h2, h3⟩ := h
    obtain ⟨a, xs, rfl, hs, hr, _⟩ := ry.tupI
    refine .inr (.inr ⟨a, xs, rfl, .inr hs, flat_rp rx h1, flats_rp hr h2, ?_⟩)
    rw [any_rp rx h1 hr h2]
    simp only [Bool.false_xor, Bool.true_xor] at h3
    exact hq _ _ _ _ _ (Stp.refl _ _) rel (.bl _) h3
  | _ => exact .inr (.inl (lstCase h))
theorem nn_rp (rel : Rel K al H O) {v : V} {d : D} (r : Rp K al H v d) (hd : d ≠ .non) (ho : ∀ k, d = .own k → ∃ c, O[k]? = some c ∧ (match c with | .dead => False | _ => True)) : v ≠ .non := by
  cases d with
  | own k =>
    obtain ⟨c, e, hc⟩ := ho k rfl
    obtain ⟨o, e1, q, hv⟩ := r.ownI rel e
    cases o with
    | none => cases c <;> first | exact hc.elim | exact (show False from q).elim
    | some p => rw [hv p rfl]; exact fun z => nomatch z
  | non => exact absurd rfl hd
  | _ => cases r <;> exact fun z => nomatch z
theorem rd_isN {K : PySem.W.Frag} {neg : Bool} : RdO2 K (fun x y H Q => y = .non ∧ Q (.bl (if neg then !decide (x = .non) else decide (x = .non))) H) (dIsN neg) := by
  intro al H O x y d e Q R rel rx ry h hq
  cases e with
  | non =>
    cases ry
    refine ⟨rfl, ?_⟩
    cases d with
    | non =>
      cases rx
      have e : (if neg = true then !decide (V.non = V.non) else decide (V.non = V.non)) = !neg := by cases neg <;> rfl
      rw [e]
      exact hq _ _ _ _ _ (Stp.refl _ _) rel (.bl _) h
    | own k =>
      obtain ⟨hk, h⟩ := h
      have z := nn_rp rel rx (fun z => nomatch z) (fun j e => by cases e; exact hk)
      rw [decide_eq_false z, show (if neg = true then !false else false) = neg by cases neg <;> rfl]
      exact hq _ _ _ _ _ (Stp.refl _ _) rel (.bl _) h
    | _ =>
      have z := nn_rp rel rx (fun z => nomatch z) (fun j e => nomatch e)
      rw [decide_eq_false z, show (if neg = true then !false else false) = neg by cases neg <;> rfl]
      exact hq _ _ _ _ _ (Stp.refl _ _) rel (.bl _) h
  | _ => exact (show False from h).elim
end
section
variable {X : Cx}
theorem c_in (hr : Un0 X.A) : CO X .In (dIn false) := ⟨_, OpR.or op_in_sign (OpR.or (op_inD (by have := hr.le; omega)) op_in_seq), rd_in⟩
theorem c_notIn (hr : Un0 X.A) : CO X .NotIn (dIn true) := ⟨_, OpR.or op_notIn_sign (OpR.or (op_notInD (by have := hr.le; omega)) op_notIn_seq), rd_notIn⟩
theorem c_is : CO X .Is (dIsN false) := ⟨_, op_isN, fun al H O x y d e Q R a b c f => rd_isN (neg := false) al H O x y d e Q R a b c f⟩
theorem c_isNot : CO X .IsNot (dIsN true) := ⟨_, op_notN, fun al H O x y d e Q R a b c f => rd_isN (neg := true) al H O x y d e Q R a b c f⟩
end

def isTy (T : String) (O : Om) (d : D) : Prop := match d with
  | .str _ => T = "str"
  | .lst _ => T = "list"
  | .own k => match O[k]? with
    | some (.lst _) => T = "list"
    | some (.dK _) => T = "dict"
    | some (.dT _) => T = "dict"
    | _ => False
  | _ => False
def xMeth (T : String) (t : D → List D → Om → QX → Prop) (a : TX) (b : TAX) : TX := fun G O Q E => a G O (fun d O1 => isTy T O1 d ∧ b G O1 (fun ds O2 => t d ds O2 Q) E) E
def MO (X : Cx) (id : String) (t : D → List D → Om → QX → Prop) : Prop := ∃ r, MtR X id r ∧ RdM X.K r t
section
variable {K : PySem.W.Frag} {al : AL} {H : Hp} {O : Om} {W : WX}
theorem isTy_rp {T : String} (rel : Rel K al H O) {v : V} {d : D} (r : Rp K al H v d) (h : isTy T O d) : tyV K T v H := by
  cases d with
  | str x => cases r; exact h
  | lst ds =>
    obtain ⟨a, xs, rfl, hs, _⟩ := r.lstI
    exact .inl ⟨h, xs, hs⟩
  | own k =>
    have h' : (match O[k]? with | some (.lst _) => T = "list" | some (.dK _) => T = "dict" | some (.dT _) => T = "dict" | _ => False) := h
    split at h'
    · rename_i e
      obtain ⟨a, xs, rfl, _, q, _⟩ := r.ownL rel e
      exact .inl ⟨h', xs, .inl (.inl q)⟩
    · rename_i e
      obtain ⟨o, e1, q, hv⟩ := r.ownI rel e
      match o, q with
      | some (a, none), q => obtain rfl := hv _ rfl; obtain ⟨xs, q, _⟩ := q; exact .inr (.inr (.inl ⟨h', .inl ⟨xs, q⟩⟩))
    · rename_i e
      obtain ⟨o, e1, q, hv⟩ := r.ownI rel e
      match o, q with
      | some (a, none), q => obtain rfl := hv _ rfl; obtain ⟨xs, q, _⟩ := q; exact .inr (.inr (.inl ⟨h', .inr ⟨xs, q⟩⟩))
    · exact h'.elim
  | _ => exact (show False from h).elim
theorem rd_meth {n : Nat} {T : String} {r : V → List V → Hp → VK → Prop} {t : D → List D → Om → QX → Prop} {ta : TE} {tb : TA} {a : TX} {b : TAX} (hr : RdM K r t) (ha : RdE K W ta a) (hb : RdA K W n tb b) : RdE K W (tBM K T r ta tb) (xMeth T t a b) := by
  intro al H σ G O Q E R rel env q hq he
  refine ha al H σ G O _ E _ rel env q (fun al1 H1 O1 v d s1 rel1 r1 q1 => ?_) he
  refine ⟨isTy_rp rel1 r1 q1.1, ?_⟩
  refine hb al1 H1 σ G O1 _ E _ rel1 (env.mono s1) q1.2 (fun al2 H2 O2 vs ds s2 rel2 r2 _ q2 => ?_) (fun _ _ _ _ _ _ s' => he _ _ _ _ _ _ (s1.trans s'))
  exact hr al2 H2 O2 v d vs ds Q R rel2 (r1.mono s2) r2 q2 fun _ _ _ _ _ s' => hq _ _ _ _ _ ((s1.trans s2).trans s')
theorem rd_meth0 {T : String} {r : V → List V → Hp → VK → Prop} {t : D → List D → Om → QX → Prop} {ta : TE} {a : TX} (hr : RdM K r t) (ha : RdE K W ta a) : RdE K W (tBM0 K T r ta) (xMeth T t a xNil) := by
  intro al H σ G O Q E R rel env q hq he
  refine ha al H σ G O _ E _ rel env q (fun al1 H1 O1 v d s1 rel1 r1 q1 => ?_) he
  exact ⟨isTy_rp rel1 r1 q1.1, hr al1 H1 O1 v d [] [] Q R rel1 r1 .nil q1.2 fun _ _ _ _ _ s' => hq _ _ _ _ _ (s1.trans s')⟩
end
section
variable {X : Cx} {W : WX} {o e : Expr} {es : List Expr} {name : Str} {apos cpos : Pos} {T id : String}
theorem px_bm {t : D → List D → Om → QX → Prop} {a : TX} {b : TAX} (pa : PlainAttrs T) (slot : Slot T name id) (hty : typeOf (.builtin id) = pure (.type "method_descriptor")) (hm : MO X id t) (ho : PX X W o a) (ha : PAX X W (e :: es) b)
    (hbase : attributeBase o name X.env (eval o X.env) = eval o X.env := by rfl)
    (hfew : ((backTo cpos (starEach (e :: es) X.env)).all (fun x => !x.1) && (backToKw cpos (keywordEach [] X.env)).all (fun x => x.1.isSome)
      && decide ((e :: es).length + ([] : List Keyword).length + (if ([] : List Keyword).isEmpty then 0 else 1) < 30)) = true := by rfl)
    (hline : (apos.endLine == cpos.line) = true := by rfl) (hs : starEach (e :: es) X.env = (false, eval e X.env) :: starEach es X.env := by rfl) (hplain : (backTo cpos (starEach es X.env)).any (·.1) = false := by rfl) :
    PX X W (.Call (.Attribute o name apos) (e :: es) [] cpos) (xMeth T t a b) := let ⟨_, m1, m2⟩ := hm; let ⟨_, p, q⟩ := ho; let ⟨_, p2, q2⟩ := ha; ⟨_, pe_bm pa slot hty m1 p p2 hbase hfew hline hs hplain, rd_meth m2 q q2⟩
theorem px_bm0 {t : D → List D → Om → QX → Prop} {a : TX} (pa : PlainAttrs T) (slot : Slot T name id) (hty : typeOf (.builtin id) = pure (.type "method_descriptor")) (hm : MO X id t) (ho : PX X W o a)
    (hbase : attributeBase o name X.env (eval o X.env) = eval o X.env := by rfl) (hline : (apos.endLine == cpos.line) = true := by rfl) : PX X W (.Call (.Attribute o name apos) [] [] cpos) (xMeth T t a xNil) := let ⟨_, m1, m2⟩ := hm; let ⟨_, p, q⟩ := ho; ⟨_, pe_bm0 pa slot hty m1 p hbase hline, rd_meth0 m2 q⟩
end
def dAppend (d : D) (ds : List D) (O : Om) (Q : QX) : Prop := match d, ds with
  | .own k, [e] => optK O[k]? fun c => lstK c fun es => es.length ≤ 1000000 ∧ Q .non (O.set k (.lst (es ++ [e])))
  | _, _ => False
def dPop (d : D) (ds : List D) (O : Om) (Q : QX) : Prop := match d, ds with
  | .own k, [] => optK O[k]? fun c => lstK c fun es => optK es.getLast? fun e => Q e (O.set k (.lst es.dropLast))
  | _, _ => False
def dClear (d : D) (ds : List D) (O : Om) (Q : QX) : Prop := match d, ds with
  | .own k, [] => optK O[k]? fun c => lstK c fun es => Q .non (O.set k (.lst []))
  | _, _ => False
def dJoin (d : D) (ds : List D) (O : Om) (Q : QX) : Prop := match d, ds with
  | .str z, [e] => optK (seqD O e) fun es => optK (D.strs es) fun ys => (ys.map (·.length)).sum + ys.length * z.length ≤ 16777216 ∧ Q (.str (Txt.join z ys)) O
  | _, _ => False
section
variable {X : Cx}
theorem sok_join {z : Str} {ys : List Str} (hz : SOk z) (h : ∀ y ∈ ys, SOk y) (hl : (ys.map (·.length)).sum + ys.length * z.length ≤ 16777216) : SOk (Txt.join z ys) := by
  rw [TL.join_eq]
  have gen : ∀ ys : List Str, (∀ y ∈ ys, SOk y) → (Str.join z ys).length ≤ (ys.map (·.length)).sum + ys.length * z.length ∧ PyData.strOk (Str.join z ys) = true := by
    intro ys
    induction ys with
    | nil => intro _; exact ⟨Nat.zero_le _, by show PyData.strOk ⟨#[]⟩ = true; simp [PyData.strOk]⟩
    | cons y r ih =>
      intro h
      cases r with
      | nil =>
        refine ⟨?_, (h y List.mem_cons_self).2⟩
        show y.length ≤ _
        simp only [List.map_cons, List.map_nil, List.sum_cons, List.sum_nil]
        omega
      | cons y2 r2 =>
        obtain ⟨i1, i2⟩ := ih fun x hx => h x (List.mem_cons_of_mem _ hx)
        have e : Str.join z (y :: y2 :: r2) = y ++ z ++ Str.join z (y2 :: r2) := rfl
        rw [e]
        refine ⟨?_, ?_⟩
        · rw [Str.length_append, Str.length_append, List.map_cons, List.sum_cons, List.length_cons (a := y), Nat.succ_mul]
          omega
        · have h1 := (h y List.mem_cons_self).2
          have h2 := hz.2
          unfold PyData.strOk at *
          rw [Str.cps_append, Str.cps_append, Array.all_append, Array.all_append, h1, h2, i2]
          rfl
  obtain ⟨g1, g2⟩ := gen ys h
  exact ⟨by rw [sizeLine_eq]; omega, g2⟩
theorem m_append : MO X "list.append" dAppend := ⟨_, mt_append, fun al H O x d xs ds Q R rel rx rxs h hq => by
  match d, ds, h with
  | .own k, [e], h =>
    obtain ⟨es, e1, e2, e3⟩ := lstK.ex h
    obtain ⟨v, rfl, r⟩ := rxs.one
    obtain ⟨a, ys, rfl, e4, e5, e6, e7⟩ := rx.ownL rel e1
    have hlen : ys.length < sizeLine := by rw [e7.length, sizeLine_eq]; omega
    have s : Stp al H al (upd H a (.lst (ys ++ [v]))) := stp_set rel.nd e4
    refine ⟨a, ys, v, rfl, rfl, e5, hlen, hq _ _ _ _ _ s (rel.set (c := .lst (es ++ [e])) e4 ⟨_, upd_same, by rw [List.length_append]; simp; omega, (e7.append (.cons r .nil)).mono s⟩) .non e3⟩⟩
theorem m_pop : MO X "list.pop" dPop := ⟨_, mt_pop, fun al H O x d xs ds Q R rel rx rxs h hq => by
  match d, ds, h with
  | .own k, [], h =>
    obtain ⟨es, e1, h⟩ := lstK.ex h
    obtain ⟨e, e2, e3⟩ := optK.ex h
    cases rxs
    obtain ⟨a, ys, rfl, e4, e5, e6, e7⟩ := rx.ownL rel e1
    have s : Stp al H al (upd H a (.lst ys.dropLast)) := stp_set rel.nd e4
    rw [List.getLast?_eq_getElem?] at e2
    obtain ⟨v, f1, f2⟩ := e7.get e2
    rw [← e7.length] at f1
    have hd : ys.dropLast = ys.take (ys.length - 1) := List.dropLast_eq_take
    have hd2 : es.dropLast = es.take (es.length - 1) := List.dropLast_eq_take
    refine ⟨a, ys, v, rfl, rfl, e5, f1, hq _ _ _ _ _ s (rel.set (c := .lst es.dropLast) e4 ⟨ys.dropLast, upd_same, by rw [List.length_dropLast]; omega, ?_⟩) (f2.mono s) e3⟩
    have z := (e7.take (ys.length - 1)).mono s
    rw [← hd, e7.length, ← hd2] at z
    exact z⟩
theorem m_clear : MO X "list.clear" dClear := ⟨_, mt_clear, fun al H O x d xs ds Q R rel rx rxs h hq => by
  match d, ds, h with
  | .own k, [], h =>
    obtain ⟨es, e1, e3⟩ := lstK.ex h
    cases rxs
    obtain ⟨a, ys, rfl, e4, e5, e6, e7⟩ := rx.ownL rel e1
    have s : Stp al H al (upd H a (.lst [])) := stp_set rel.nd e4
    exact ⟨a, ys, rfl, rfl, e5, hq _ _ _ _ _ s (rel.set (c := .lst []) e4 ⟨[], upd_same, Nat.zero_le _, .nil⟩) .non e3⟩⟩
theorem m_join : MO X "str.join" dJoin := ⟨_, mt_join, fun al H O x d xs ds Q R rel rx rxs h hq => by
  match d, ds, h with
  | .str z, [e], h =>
    obtain ⟨es, e1, h⟩ := optK.ex h
    obtain ⟨ys, e2, e3, e4⟩ := optK.ex h
    obtain ⟨v, rfl, rv⟩ := rxs.one
    obtain ⟨a, us, rfl, hs, hr, _⟩ := seqD_rp rel rv e1
    obtain ⟨e5, e6⟩ := hr.strsI e2
    subst e5
    cases rx with
    | str _ hz => exact ⟨z, a, ys, rfl, rfl, hs, e3, hq _ _ _ _ _ (Stp.refl _ _) rel (.str _ (sok_join hz e6 e3)) e4⟩⟩
end
end Px

namespace Px
open PySem PySem.Spec PyProof.Rows L2

def CW (j : Int) : Prop := 0 < j ∧ j < 2 ^ 100
theorem o_fdivW {X : Cx} : BO X .FloorDiv (dI2c (fun _ j => CW j) fun i j => i / j) := ⟨_, op_fdivW, fun al H O x y d e Q R rel rx ry h hq => by
  cases d <;> cases e <;> first | exact (show False from h).elim | skip
  cases rx; cases ry
  obtain ⟨⟨h1, h2⟩, h3⟩ := h
  exact ⟨_, _, rfl, rfl, wide_div (b := 100) h1 (by omega) (by decide) (by decide), hq _ _ _ _ _ (Stp.refl _ _) rel (.int _) h3⟩⟩
def rCatT0 (K : PySem.W.Frag) : R2 := fun x y H Q => ∃ a b ys, x = .ref a ∧ y = .ref b ∧ SqT K H a [] ∧ SqT K H b ys ∧ Q (.ref b) H
theorem op_catT0 {X : Cx} : OpR X (binaryOp .Add) (rCatT0 X.K) := by
  intro pins s σ H x y v u Q I rx ry h
  obtain ⟨a, b, ys, rfl, rfl, ha, hb, q1⟩ := h
  cases rx
  cases ry
  obtain ⟨its, r1, p1, _⟩ := I.tuple ha
  obtain ⟨its2, r2, p2, _⟩ := I.tuple hb
  have e := r1.nil_iff.mpr rfl
  subst e
  obtain ⟨o, ho, hc, n, hd⟩ := p1
  obtain ⟨o2, ho2, hc2, n2, hd2⟩ := p2
  obtain ⟨c, dd, dt, sl⟩ := o
  obtain ⟨c2, dd2, dt2, sl2⟩ := o2
  simp only at hc hd hc2 hd2
  subst hc hd hc2 hd2
  exact concat_meets ⟨_, ho, rfl⟩ ⟨_, ho2, rfl⟩ noFill_tuple_add seq_tuple_add PySem.F.slot_tuple_add PySem.F.entry_tuple_add (PySem.F.args_tuple_add_2 _ _)
      (tuple_addW0 a b _ _ n n2 dd dd2 sl sl2 (by simp)) ⟨ho, ho2, ⟨.ref b, H, I, rfl, q1⟩⟩
def rCatL (K : PySem.W.Frag) : R2 := fun x y H Q => ∃ l b xs zs, x = .ref l ∧ y = .ref b ∧ SqL K H l xs ∧ SqL K H b zs ∧ xs.length + zs.length ≤ sizeLine ∧ ∀ p, H p = none → Q (.ref p) (upd H p (.lst (xs ++ zs)))
theorem op_catL {X : Cx} : OpR X (binaryOp .Add) (rCatL X.K) := by
  intro pins s σ H x y v u Q I rx ry h
  obtain ⟨l, b, xs, zs, rfl, rfl, hH, hB, hz, q⟩ := h
  cases rx
  cases ry
  obtain ⟨its, r, p1, z1⟩ := I.list hH
  obtain ⟨its2, r2, p2, z2⟩ := I.list hB
  have hl := r.length
  have hl2 := r2.length
  obtain ⟨⟨cls, dd, data, sl⟩, ho, hc, n, hd⟩ := id p1.isList
  obtain ⟨⟨cls2, dd2, data2, sl2⟩, ho2, hc2, n2, hd2⟩ := id p2.isList
  simp only at hc hd hc2 hd2
  subst hc hd hc2 hd2
  have e : its.toArray ++ its2.toArray = (its ++ its2).toArray := by simp
  refine concat_meets ⟨_, ho, rfl⟩ ⟨_, ho2, rfl⟩ noFill_list_add seq_list_add PySem.F.slot_list_add PySem.F.entry_list_add
    (PySem.F.args_list_add_2 _ _) (list_addW l b its.toArray its2.toArray n n2 dd dd2 sl sl2 (by rw [List.size_toArray, List.size_toArray]; omega)) ⟨ho, ho2, ?_⟩
  rw [e]
  exact ⟨.ref _, _, I.lnew (t' := s.toks) (r.append r2) (by rw [List.length_append]; omega), rfl, q _ I.fresh⟩
def dCat (d e : D) (O : Om) (Q : QX) : Prop := match d, e with
  | .int i, .int j => Q (.int (i + j)) O
  | .str x, .str y => x.length + y.length ≤ sizeLine ∧ Q (.str (x ++ y)) O
  | .tup xs, .tup ys => xs.length + ys.length ≤ 1000000 ∧ Q (.tup (xs ++ ys)) O
  | .lst xs, .lst ys => xs.length + ys.length ≤ 1000000 ∧ Q (.lst (xs ++ ys)) O
  | _, _ => False
theorem line_ok : (1000000 : Nat) ≤ sizeLine := by rw [sizeLine_eq]; decide
theorem o_add {X : Cx} : BO X .Add dCat := ⟨_, OpR.or (OpR.or op_add op_add_str) (OpR.or op_catT0 (OpR.or op_catT op_catL)), fun al H O x y d e Q R rel rx ry h hq => by
  cases d <;> cases e <;> first | exact (show False from h).elim | skip
  · cases rx; cases ry
    exact .inl (.inl ⟨_, _, rfl, rfl, hq _ _ _ _ _ (Stp.refl _ _) rel (.int _) h⟩)
  · cases rx with
    | str _ h1 => cases ry with
      | str _ h2 => exact .inl (.inr ⟨_, _, rfl, rfl, h.1, hq _ _ _ _ _ (Stp.refl _ _) rel (.str _ (h1.app h2 h.1)) h.2⟩)
  · rename_i ds es
    obtain ⟨hl, h⟩ := h
    have rx' := rx
    have ry' := ry
    obtain ⟨a, xs, rfl, ha, ra, la⟩ := rx.tupI
    obtain ⟨b, ys, rfl, hb, rb, lb⟩ := ry.tupI
    have hz : xs.length + ys.length ≤ sizeLine := by rw [ra.length, rb.length]; exact Nat.le_trans hl line_ok
    cases xs with
    | nil =>
      cases ra
      exact .inr (.inl ⟨a, b, ys, rfl, rfl, ha, hb, hq _ _ _ _ _ (Stp.refl _ _) rel ry' h⟩)
    | cons x0 xs =>
      refine .inr (.inr (.inl ⟨a, b, x0 :: xs, ys, rfl, rfl, ha, hb, (fun z => nomatch z), hz, (fun z => ?_), (fun _ p hp => ?_)⟩))
      · subst z
        cases rb
        rw [List.append_nil] at h
        exact hq _ _ _ _ _ (Stp.refl _ _) rel rx' h
      · exact hq _ _ _ _ _ (stp_new rel.live hp) (rel.new hp) (new_tup rel hp (ra.append rb) (by rw [List.length_append]; exact hz)) h
  · rename_i ds es
    obtain ⟨hl, h⟩ := h
    obtain ⟨a, xs, rfl, ha, ra, la⟩ := rx.lstI
    obtain ⟨b, ys, rfl, hb, rb, lb⟩ := ry.lstI
    have hz : xs.length + ys.length ≤ sizeLine := by rw [ra.length, rb.length]; exact Nat.le_trans hl line_ok
    refine .inr (.inr (.inr ⟨a, b, xs, ys, rfl, rfl, ha, hb, hz, fun p hp => ?_⟩))
    exact hq _ _ _ _ _ (stp_new rel.live hp) (rel.new hp) (new_lst rel hp (ra.append rb) (by rw [List.length_append]; exact hz)) h⟩

def dSet (o i d : D) (O : Om) (Q : Om → Prop) : Prop := match i with
  | .int n => ownK o fun k => optK O[k]? fun c => lstK c fun ds => optK (ixN ds.length n) fun j => Q (O.set k (.lst (ds.set j d)))
  | _ => False
def xgSub (a b : TX) : TGX := fun d G O Q E => a G O (fun o O1 => b G O1 (fun i O2 => dSet o i d O2 fun O3 => Q G O3) E) E
section
variable {K : PySem.W.Frag} {W : WX}
theorem RpA.set {al : AL} {H : Hp} {v : V} {d : D} (r : Rp K al H v d) : ∀ {vs : List V} {ds : List D} (j : Nat), RpA K al H vs ds → RpA K al H (vs.set j v) (ds.set j d)
  | _, _, _, .nil => .nil
  | _, _, 0, .cons _ t => .cons r t
  | _, _, j + 1, .cons h t => .cons h (RpA.set r j t)
theorem rd_gSub {ta tb : TE} {a b : TX} (ha : RdE K W ta a) (hb : RdE K W tb b) : RdG K W [] (gSub ta tb rSetL) (xgSub a b) := by
  intro al H σ G O v d Q E R rel env r h hq he
  refine ha al H σ G O _ E _ rel env h (fun al1 H1 O1 x o s1 rel1 r1 q1 => ?_) he
  refine hb al1 H1 σ G O1 _ E _ rel1 (env.mono s1) q1 (fun al2 H2 O2 y i s2 rel2 r2 q2 => ?_) (fun _ _ _ _ _ _ s' => he _ _ _ _ _ _ (s1.trans s'))
  have s12 := s1.trans s2
  cases i with
  | int n =>
    cases r2
    obtain ⟨k, rfl, q2⟩ := ownK.ex q2
    obtain ⟨ds, e1, q2⟩ := lstK.ex q2
    obtain ⟨j, e2, q2⟩ := optK.ex q2
    obtain ⟨p, xs, rfl, e3, e4, e5, e6⟩ := (r1.mono s2).ownL rel2 e1
    have s : Stp al2 H2 al2 (upd H2 p (.lst (xs.set j v))) := stp_set rel2.nd e3
    refine ⟨p, xs, n, j, rfl, rfl, e4, by rw [e6.length]; exact e2, hq _ _ _ _ _ (s12.trans s) (rel2.set (c := .lst (ds.set j d)) e3 ⟨xs.set j v, upd_same, by rw [List.length_set]; exact e5, ((e6.set (r.mono s12) j)).mono s⟩) (env.mono (s12.trans s)) (fun _ _ => rfl) q2⟩
  | _ => exact (show False from q2).elim
end
section
variable {X : Cx} {W : WX}
theorem pgx_sub {o i : Expr} {a b : TX} {pos : Pos} (ho : PX X W o a) (hi : PX X W i b)
    (ha : ∀ v, assign (.Subscript o i pos) X.env v = (do
      let ov ← holding [v] (eval o X.env)
      let iv ← holding [v, ov] (eval i X.env)
      standAt pos
      holding [v, ov, iv] (setItem ov iv v)
      release [v, ov, iv] []) := by intro _; rfl) : PGX X W (.Subscript o i pos) [] (xgSub a b) := let ⟨_, p, q⟩ := ho; let ⟨_, p2, q2⟩ := hi; ⟨_, pg_sub p p2 set_list ha, rd_gSub q q2⟩
end

structure Cl (P : Program) (w : World) (K : PySem.W.Frag) (mg : Str → Option Value) (base : Heap) (x : Str) (k : Nat) (ps : List Str) (T : SpX) : Prop where
  ex : ∃ f fd, mg x = some (.ref f) ∧ PySem.W.keepIn K (.ref f) = true ∧ Binds K fd ps [] ∧ FnX P w K mg base k f fd ps T
section
variable {X : Cx} {W : WX} {k j : Nat} {ps : List Str} {T : SpX} {x : Str} {p pos : Pos} {e : Expr} {es : List Expr}
theorem px_cl {t : TAX} (C : Cl X.prog X.w X.K X.mg X.base x k ps T) (hr : Room j X.A) (tk : Takes X W) (ha : PAX X W (e :: es) t) (hg : Gl X x := by rfl) (hk : decide (k ≤ j) = true := by rfl) (hdb : (x == ("__debug__" : Str)) = false := by decide)
    (he : starEach (e :: es) X.env = (false, eval e X.env) :: starEach es X.env := by rfl) (hpl : (backTo pos (starEach es X.env)).any (·.1) = false := by rfl) :
    PX X W (.Call (.Name x p) (e :: es) [] pos) (xFn T t) := let ⟨_, _, hm, hkp, hb, F⟩ := C.ex; px_fn F (hr.mono (of_decide_eq_true hk)) hg hm hkp hb tk ha hdb he hpl
end
structure Con1 (K : PySem.W.Frag) (mg : Str → Option Value) (x : Str) (d : D) : Prop where
  ex : ∃ v u, mg x = some u ∧ RelV v u ∧ ∀ al H, Rp K al H v d
theorem px_con {X : Cx} {W : WX} {x : Str} {d : D} {pos : Pos} (g : Con1 X.K X.mg x d) (hg : Gl X x) (hd : (x == ("__debug__" : Str)) = false := by decide) : PX X W (.Name x pos) (xC d) := let ⟨_, _, h1, h2, h3⟩ := g.ex; px_glob hg h1 h2 h3 hd
theorem con_int {K : PySem.W.Frag} {mg : Str → Option Value} {x : Str} {i : Int} {t : Tok} (h : mg x = some (.int i t)) : Con1 K mg x (.int i) := ⟨⟨.int i, _, h, ⟨_, rfl⟩, fun _ _ => .int i⟩⟩
theorem con_str {K : PySem.W.Frag} {mg : Str → Option Value} {x : Str} {i : Str} {t : Tok} (h : mg x = some (.str i t)) (hs : (decide (i.length ≤ sizeLine) && PyData.strOk i) = true := by decide +kernel) : Con1 K mg x (.str i) := ⟨⟨.str i, _, h, ⟨_, rfl⟩, fun _ _ => .str i ⟨of_decide_eq_true (Bool.and_eq_true_iff.mp hs).1, (Bool.and_eq_true_iff.mp hs).2⟩⟩⟩
theorem cl_mk {P : Program} {w : World} {K : PySem.W.Frag} {mg : Str → Option Value} {base : Heap} {x : Str} {k : Nat} {ps : List Str} {T : SpX} {st : Stmt} {f : Addr} {fd : FuncData} (hm : mg x = some (.ref f)) (F : Fun K x x st f fd) (b : Binds K fd ps []) (h : FnX P w K mg base k f fd ps T) : Cl P w K mg base x k ps T := ⟨⟨f, fd, hm, F.kp, b, h⟩⟩
end Px

namespace Px
open PySem PySem.Spec PyProof.Rows L2
theorem xite_by {b : Bool} {p q : Prop} (h1 : b = true → p) (h2 : b = false → q) : xite b p q := by
  cases b with
  | true => exact h1 rfl
  | false => exact h2 rfl
theorem xite_t {b : Bool} {p q : Prop} (h1 : b = true) (h2 : p) : xite b p q := by subst h1; exact h2
theorem xite_f {b : Bool} {p q : Prop} (h1 : b = false) (h2 : q) : xite b p q := by subst h1; exact h2
theorem lcGo0_fm {g : TGX} {tt : TTX} {te : TX} {grd : Om → Prop} {G : Gam} {Q : QX} (f : D → Option D) {O : Om} (hg : grd O) : ∀ {ds acc : List D},
    (∀ d ∈ ds, ∀ (k : QX) (k' : Om → Prop), (match f d with | some y => k y O | none => k' O) → g d G O (fun G1 O1 => tt G1 O1 (fun b O2 => xite b (te G1 O2 k noE) (k' O2)) noE) noE) →
    Q (.lst (acc ++ ds.filterMap f)) O → lcGo0 g tt te grd G Q ds acc O
  | [], acc, _, q => ⟨hg, by rw [List.filterMap_nil, List.append_nil] at q; exact q⟩
  | d :: ds, acc, h, q => by
    refine ⟨hg, h d List.mem_cons_self _ (fun O2 => lcGo0 g tt te grd G Q ds acc O2) ?_⟩
    cases e : f d with
    | none =>
      rw [List.filterMap_cons_none e] at q
      exact lcGo0_fm f hg (fun x hx => h x (List.mem_cons_of_mem _ hx)) q
    | some y =>
      rw [List.filterMap_cons_some e] at q
      exact lcGo0_fm f hg (fun x hx => h x (List.mem_cons_of_mem _ hx)) (by rw [List.append_assoc]; exact q)
theorem lcGo0_map {g : TGX} {tt : TTX} {te : TX} {grd : Om → Prop} {G : Gam} {Q : QX} (f : D → D) {O : Om} {ds : List D} (hg : grd O)
    (h : ∀ d ∈ ds, ∀ (k : QX) (k' : Om → Prop), k (f d) O → g d G O (fun G1 O1 => tt G1 O1 (fun b O2 => xite b (te G1 O2 k noE) (k' O2)) noE) noE) (q : Q (.lst (ds.map f)) O) : lcGo0 g tt te grd G Q ds [] O := by
  refine lcGo0_fm (fun d => some (f d)) hg (fun d hd k k' hk => h d hd k k' hk) ?_
  rw [List.nil_append, show ds.filterMap (fun d => some (f d)) = ds.map f from by induction ds with | nil => rfl | cons x xs ih => simp]
  exact q
theorem lcGo0_inv {g : TGX} {tt : TTX} {te : TX} {grd : Om → Prop} {G : Gam} {Q : QX} (I : List D → List D → Om → Prop) : ∀ {ds acc : List D} {O : Om}, I ds acc O → (∀ ds acc O, I ds acc O → grd O) →
    (∀ d ds acc O, I (d :: ds) acc O → ∀ (k : QX) (k' : Om → Prop), (∀ y O', I ds (acc ++ [y]) O' → k y O') → (∀ O', I ds acc O' → k' O') → g d G O (fun G1 O1 => tt G1 O1 (fun b O2 => xite b (te G1 O2 k noE) (k' O2)) noE) noE) →
    (∀ acc O, I [] acc O → Q (.lst acc) O) → lcGo0 g tt te grd G Q ds acc O
  | [], acc, O, h0, hg, _, hd => ⟨hg _ _ _ h0, hd _ _ h0⟩
  | d :: ds, acc, O, h0, hg, hs, hd => ⟨hg _ _ _ h0, hs d ds acc O h0 _ _ (fun y O' h' => lcGo0_inv I h' hg hs hd) (fun O' h' => lcGo0_inv I h' hg hs hd)⟩
theorem forGo0_inv {g : TGX} {body : TSX} {grd : Om → Prop} {En : Ed} (I : List D → Gam → Om → Prop) : ∀ {ds : List D} {G : Gam} {O : Om}, I ds G O → (∀ ds G O, I ds G O → grd O) →
    (∀ d ds G O, I (d :: ds) G O → ∀ (nx : Gam → Om → Prop), (∀ G' O', I ds G' O' → nx G' O') → g d G O (fun G1 O1 => body { En with nx := nx, ct := nx, bk := En.nx } G1 O1) (fun x O1 => En.ex x G O1)) →
    (∀ G O, I [] G O → En.nx G O) → forGo0 g body grd En ds G O
  | [], G, O, h0, hg, _, hd => ⟨hg _ _ _ h0, hd _ _ h0⟩
  | d :: ds, G, O, h0, hg, hs, hd => ⟨hg _ _ _ h0, hs d ds G O h0 _ (fun G' O' h' => forGo0_inv I h' hg hs hd)⟩
theorem lcGo_fm {g : TGX} {tt : TTX} {te : TX} {grd : Om → Prop} {G : Gam} {Q : QX} (f : D → Option D) {O : Om} {ds acc : List D} (hg : grd O)
    (h : ∀ d ∈ ds, ∀ (k : QX) (k' : Om → Prop), (match f d with | some y => k y O | none => k' O) → g d G O (fun G1 O1 => tt G1 O1 (fun b O2 => xite b (te G1 O2 k noE) (k' O2)) noE) noE)
    (q : Q (.lst (acc ++ ds.filterMap f)) O) : lcGo g tt te grd G Q ds acc O := .mk (lcGo0_fm f hg h q)
theorem lcGo_map {g : TGX} {tt : TTX} {te : TX} {grd : Om → Prop} {G : Gam} {Q : QX} (f : D → D) {O : Om} {ds : List D} (hg : grd O)
    (h : ∀ d ∈ ds, ∀ (k : QX) (k' : Om → Prop), k (f d) O → g d G O (fun G1 O1 => tt G1 O1 (fun b O2 => xite b (te G1 O2 k noE) (k' O2)) noE) noE) (q : Q (.lst (ds.map f)) O) : lcGo g tt te grd G Q ds [] O := .mk (lcGo0_map f hg h q)
theorem lcGo_inv {g : TGX} {tt : TTX} {te : TX} {grd : Om → Prop} {G : Gam} {Q : QX} (I : List D → List D → Om → Prop) {ds acc : List D} {O : Om} (h0 : I ds acc O) (hg : ∀ ds acc O, I ds acc O → grd O)
    (hs : ∀ d ds acc O, I (d :: ds) acc O → ∀ (k : QX) (k' : Om → Prop), (∀ y O', I ds (acc ++ [y]) O' → k y O') → (∀ O', I ds acc O' → k' O') → g d G O (fun G1 O1 => tt G1 O1 (fun b O2 => xite b (te G1 O2 k noE) (k' O2)) noE) noE)
    (hd : ∀ acc O, I [] acc O → Q (.lst acc) O) : lcGo g tt te grd G Q ds acc O := .mk (lcGo0_inv I h0 hg hs hd)
theorem forGo_inv {g : TGX} {body : TSX} {grd : Om → Prop} {En : Ed} (I : List D → Gam → Om → Prop) {ds : List D} {G : Gam} {O : Om} (h0 : I ds G O) (hg : ∀ ds G O, I ds G O → grd O)
    (hs : ∀ d ds G O, I (d :: ds) G O → ∀ (nx : Gam → Om → Prop), (∀ G' O', I ds G' O' → nx G' O') → g d G O (fun G1 O1 => body { En with nx := nx, ct := nx, bk := En.nx } G1 O1) (fun x O1 => En.ex x G O1))
    (hd : ∀ G O, I [] G O → En.nx G O) : forGo g body grd En ds G O := .mk (forGo0_inv I h0 hg hs hd)
theorem bools_map {α : Type} (f : α → Bool) : ∀ l : List α, D.bools (l.map fun c => .bl (f c)) = some (l.map f)
  | [] => rfl
  | x :: xs => by show (D.bools _).map _ = _; rw [bools_map f xs]; rfl
theorem strs_map {α : Type} (f : α → Str) : ∀ l : List α, D.strs (l.map fun c => .str (f c)) = some (l.map f)
  | [] => rfl
  | x :: xs => by show (D.strs _).map _ = _; rw [strs_map f xs]; rfl
theorem ints_map {α : Type} (f : α → Int) : ∀ l : List α, D.ints (l.map fun c => .int (f c)) = some (l.map f)
  | [] => rfl
  | x :: xs => by show (D.ints _).map _ = _; rw [ints_map f xs]; rfl
end Px

namespace Px
open PySem PySem.Spec PyProof.Rows L2
section
variable {K : PySem.W.Frag} {al al2 : AL} {H : Hp} {O : Om}
mutual
theorem Rp.iso (hf : ∀ a, a ∈ fp al2 → a ∈ fp al) (hl : ∀ (j : Nat) o, al.l[j]? = some o → ∃ o', al2.l[j]? = some o' ∧ ∀ p', o' = some p' → ∃ p, o = some p ∧ p.1 = p'.1) : ∀ {v : V} {d : D}, Rp K al H v d → Rp K al2 H v d
  | _, _, .non => .non
  | _, _, .bl b => .bl b
  | _, _, .int i => .int i
  | _, _, .adr a => .adr a
  | _, _, .str x h => .str x h
  | _, _, .tup h hz hr => .tup ⟨fun m => h.1 (hf _ m), h.2⟩ hz (RpA.iso hf hl hr)
  | _, _, .lst h hz hr => .lst (h.elim (fun z => .inl ⟨fun m => z.1 (hf _ m), z.2⟩) .inr) hz (RpA.iso hf hl hr)
  | _, _, .own h hv => by
    obtain ⟨o', e, q⟩ := hl _ _ h
    refine .own e fun p' e' => ?_
    obtain ⟨p, e1, e2⟩ := q p' e'
    rw [hv p e1, e2]
theorem RpA.iso (hf : ∀ a, a ∈ fp al2 → a ∈ fp al) (hl : ∀ (j : Nat) o, al.l[j]? = some o → ∃ o', al2.l[j]? = some o' ∧ ∀ p', o' = some p' → ∃ p, o = some p ∧ p.1 = p'.1) : ∀ {vs : List V} {ds : List D}, RpA K al H vs ds → RpA K al2 H vs ds
  | _, _, .nil => .nil
  | _, _, .cons h t => .cons (Rp.iso hf hl h) (RpA.iso hf hl t)
end
mutual
theorem Rp.isoC (n : Nat) (hf : ∀ a, a ∈ fp al2 → a ∈ fp al) (hl : ∀ (j : Nat) o, j < n → al.l[j]? = some o → ∃ o', al2.l[j]? = some o' ∧ ∀ p', o' = some p' → ∃ p, o = some p ∧ p.1 = p'.1) : ∀ {v : V} {d : D}, Rp K al H v d → d.cl n = true → Rp K al2 H v d
  | _, _, .non, _ => .non
  | _, _, .bl b, _ => .bl b
  | _, _, .int i, _ => .int i
  | _, _, .adr a, _ => .adr a
  | _, _, .str x h, _ => .str x h
  | _, _, .tup h hz hr, hc => .tup ⟨fun m => h.1 (hf _ m), h.2⟩ hz (RpA.isoC n hf hl hr hc)
  | _, _, .lst h hz hr, hc => .lst (h.elim (fun z => .inl ⟨fun m => z.1 (hf _ m), z.2⟩) .inr) hz (RpA.isoC n hf hl hr hc)
  | _, _, .own h hv, hc => by
    obtain ⟨o', e, q⟩ := hl _ _ (of_decide_eq_true hc) h
    refine .own e fun p' e' => ?_
    obtain ⟨p, e1, e2⟩ := q p' e'
    rw [hv p e1, e2]
theorem RpA.isoC (n : Nat) (hf : ∀ a, a ∈ fp al2 → a ∈ fp al) (hl : ∀ (j : Nat) o, j < n → al.l[j]? = some o → ∃ o', al2.l[j]? = some o' ∧ ∀ p', o' = some p' → ∃ p, o = some p ∧ p.1 = p'.1) : ∀ {vs : List V} {ds : List D}, RpA K al H vs ds → D.cls n ds = true → RpA K al2 H vs ds
  | _, _, .nil, _ => .nil
  | _, _, .cons h t, hc => .cons (Rp.isoC n hf hl h (Bool.and_eq_true_iff.mp hc).1) (RpA.isoC n hf hl t (Bool.and_eq_true_iff.mp hc).2)
end
theorem CellOk.iso {c : Cell} {o : Option (Addr × Option Addr)} (hf : ∀ a, a ∈ fp al2 → a ∈ fp al) (hr : ∀ {vs ds}, RpA K al H vs ds → D.cls O.length ds = true → RpA K al2 H vs ds) (h : CellOk K al H c o) (hc : c.cl O.length = true) : CellOk K al2 H c o := by
  match c, o, h with
  | .dead, _, _ => trivial
  | .deck, some (a, some b), h => exact h
  | .pen, some (a, none), h => exact h
  | .tab q, some (a, none), h =>
    obtain ⟨h0, ps, h1, h2, h3⟩ := h
    refine ⟨h0, ps, h1, h2, fun pos cv hcv => ?_⟩
    obtain ⟨c, e, hn, hc⟩ := h3 pos cv hcv
    exact ⟨c, e, fun m => hn (hf _ m), hc⟩
  | .lst ds, some (a, none), ⟨xs, h1, h2, h⟩ => exact ⟨xs, h1, h2, hr h hc⟩
  | .dK ds, some (a, none), ⟨xs, h1, h⟩ => exact ⟨xs, h1, h.1, hr h.2 hc⟩
  | .dT ds, some (a, none), ⟨xs, h1, h⟩ => exact ⟨xs, h1, h.1, hr h.2 hc⟩
  | .fzK _ _ ds, some (a, none), ⟨h1, h⟩ => exact ⟨h1, h.1, hr h.2 hc⟩
  | .fzT _ _ ds, some (a, none), ⟨h1, h⟩ => exact ⟨h1, h.1, hr h.2 hc⟩
  | .ins C fs, some (a, some b), ⟨xs, h1, h2, h⟩ => exact ⟨xs, h1, h2, h.1, hr h.2 hc⟩
  | .exn C fs, some (a, none), ⟨d, h1, h⟩ =>
    refine ⟨d, h1, ?_⟩
    rcases h with h | ⟨dd, vs, e, hn, hd, h⟩
    · exact .inl h
    · exact .inr ⟨dd, vs, e, fun m => hn (hf _ m), hd, h.1, hr h.2 hc⟩
def deckO (O : Om) (k : Nat) (t n : Int) (ns : List Int) : Om := O.set k (.lst [.own O.length, .int t, .int n]) ++ [.lst (ns.map .int)]
theorem deckO_k {O : Om} {k : Nat} {t n : Int} {ns : List Int} (hk : k < O.length) : (deckO O k t n ns)[k]? = some (.lst [.own O.length, .int t, .int n]) := by
  unfold deckO
  rw [List.getElem?_append_left (by rw [List.length_set]; exact hk), List.getElem?_set_self hk]
theorem deckO_j {O : Om} {k : Nat} {t n : Int} {ns : List Int} : (deckO O k t n ns)[O.length]? = some (.lst (ns.map .int)) := by
  unfold deckO
  rw [List.getElem?_append_right (by rw [List.length_set]; exact Nat.le_refl _), List.length_set, Nat.sub_self]; rfl
theorem deckO_set1 {O : Om} {k : Nat} {t n t' n' : Int} {ns : List Int} (hk : k < O.length) : (deckO O k t n ns).set k (.lst [.own O.length, .int t', .int n']) = deckO O k t' n' ns := by
  unfold deckO
  rw [List.set_append_left _ _ (by rw [List.length_set]; exact hk), List.set_set]
theorem deckO_set2 {O : Om} {k : Nat} {t n : Int} {ns ms : List Int} : (deckO O k t n ns).set O.length (.lst (ms.map .int)) = deckO O k t n ms := by
  unfold deckO
  rw [List.set_append_right _ _ (by rw [List.length_set]; exact Nat.le_refl _), List.length_set, Nat.sub_self]; rfl
theorem intsR : ∀ {ns : List Int}, RpA K al H (ns.map V.int) (ns.map D.int)
  | [] => .nil
  | _ :: _ => .cons (.int _) intsR
theorem deck_open (rel : Rel K al H O) {k : Nat} (hk : O[k]? = some .deck) : ∃ a b ns t n, al.l[k]? = some (some (a, some b)) ∧ ns.length ≤ 64 ∧ Rel K ⟨al.hid, al.l.set k (some (a, none)) ++ [some (b, none)]⟩ H (deckO O k t n ns) ∧ (∀ x, x ∈ fp ⟨al.hid, al.l.set k (some (a, none)) ++ [some (b, none)]⟩ ↔ x ∈ fp al) := by
  obtain ⟨o, e, q⟩ := rel.ok k _ hk
  match o, q with
  | some (a, some b), ⟨ns, t, n, h1, h2, h3⟩ =>
    have hkl : k < al.l.length := (List.getElem?_eq_some_iff.mp e).1
    have hkO : k < O.length := (List.getElem?_eq_some_iff.mp hk).1
    have f1 : fp al = al.hid ++ (fpl (al.l.take k) ++ ([a, b] ++ fpl (al.l.drop (k + 1)))) := fp_cut e
    have f2 : fp ⟨al.hid, al.l.set k (some (a, none)) ++ [some (b, none)]⟩ = (al.hid ++ (fpl (al.l.take k) ++ ([a] ++ fpl (al.l.drop (k + 1))))) ++ [b] := by
      have z := fp_setN (o' := some (a, none)) e
      have z2 : fp ((al.setN k (some (a, none))).add (some (b, none))) = _ := fp_add
      rw [z] at z2
      exact z2
    have pm : (fp ⟨al.hid, al.l.set k (some (a, none)) ++ [some (b, none)]⟩).Perm (fp al) := by
      rw [f1, f2]
      have e2 : (al.hid ++ (fpl (al.l.take k) ++ ([a] ++ fpl (al.l.drop (k + 1))))) ++ [b] = (al.hid ++ fpl (al.l.take k) ++ [a]) ++ (fpl (al.l.drop (k + 1)) ++ [b]) := by simp
      have e3 : al.hid ++ (fpl (al.l.take k) ++ ([a, b] ++ fpl (al.l.drop (k + 1)))) = (al.hid ++ fpl (al.l.take k) ++ [a]) ++ ([b] ++ fpl (al.l.drop (k + 1))) := by simp
      rw [e2, e3]
      exact List.Perm.append_left _ List.perm_append_comm
    have iff : ∀ x, x ∈ fp ⟨al.hid, al.l.set k (some (a, none)) ++ [some (b, none)]⟩ ↔ x ∈ fp al := fun x => pm.mem_iff
    have hl : ∀ (j : Nat) o, al.l[j]? = some o → ∃ o', (al.l.set k (some (a, none)) ++ [some (b, none)])[j]? = some o' ∧ ∀ p', o' = some p' → ∃ p, o = some p ∧ p.1 = p'.1 := fun j o hj => by
      have hjl : j < al.l.length := (List.getElem?_eq_some_iff.mp hj).1
      rw [List.getElem?_append_left (by rw [List.length_set]; exact hjl)]
      by_cases z : j = k
      · subst z
        rw [List.getElem?_set_self hjl]
        rw [e] at hj; cases hj
        exact ⟨_, rfl, fun p' e' => by cases e'; exact ⟨_, rfl, rfl⟩⟩
      · rw [List.getElem?_set_ne (Ne.symm z)]
        exact ⟨o, hj, fun p' e' => ⟨p', e', rfl⟩⟩
    refine ⟨a, b, ns, t, n, e, h3, ⟨?_, pm.nodup_iff.mpr rel.nd, fun x hx => rel.live x ((iff x).mp hx), fun x hx => rel.nt x ((iff x).mp hx), fun j c hj => ?_⟩, iff⟩
    · show (al.l.set k _ ++ [_]).length = _
      unfold deckO
      rw [List.length_append, List.length_append, List.length_set, List.length_set, rel.len]; rfl
    · by_cases z : j = O.length
      · subst z
        rw [deckO_j] at hj; cases hj
        refine ⟨some (b, none), ?_, ns.map V.int, h2, by rw [List.length_map]; exact Nat.le_trans h3 (by rw [sizeLine_eq]; decide), intsR⟩
        show (al.l.set k _ ++ [_])[O.length]? = _
        rw [← rel.len, List.getElem?_append_right (by rw [List.length_set]; exact Nat.le_refl _), List.length_set, Nat.sub_self]; rfl
      · have hjO : j < O.length := by
          have := (List.getElem?_eq_some_iff.mp hj).1
          unfold deckO at this
          rw [List.length_append, List.length_set] at this
          simp at this; omega
        have hjl : j < al.l.length := by rw [rel.len]; exact hjO
        by_cases z2 : j = k
        · subst z2
          rw [deckO_k hkO] at hj; cases hj
          refine ⟨some (a, none), ?_, _, h1, by show 3 ≤ sizeLine; rw [sizeLine_eq]; decide, .cons ?_ (.cons (.int _) (.cons (.int _) .nil))⟩
          · show (al.l.set j _ ++ [_])[j]? = _
            rw [List.getElem?_append_left (by rw [List.length_set]; exact hjl), List.getElem?_set_self hjl]
          · refine .own (o := some (b, none)) ?_ (fun p e' => by cases e'; rfl)
            show (al.l.set j _ ++ [_])[O.length]? = _
            rw [← rel.len, List.getElem?_append_right (by rw [List.length_set]; exact Nat.le_refl _), List.length_set, Nat.sub_self]; rfl
        · unfold deckO at hj
          rw [List.getElem?_append_left (by rw [List.length_set]; exact hjO), List.getElem?_set_ne (Ne.symm z2)] at hj
          obtain ⟨o', e1, q⟩ := rel.ok j c hj
          refine ⟨o', ?_, q.iso (O := O) (fun x hx => (iff x).mp hx) (fun h _ => RpA.iso (fun x hx => (iff x).mp hx) hl h) (rel.cl c (List.mem_of_getElem? hj))⟩
          show (al.l.set k _ ++ [_])[j]? = _
          rw [List.getElem?_append_left (by rw [List.length_set]; exact hjl), List.getElem?_set_ne (Ne.symm z2)]
          exact e1
theorem deck_close {a b : Addr} {k : Nat} {t n : Int} {ns : List Int} {al' : AL} {H' : Hp} (rel : Rel K al H O) (hk : O[k]? = some .deck) (ea : al.l[k]? = some (some (a, some b))) (iff : ∀ x, x ∈ fp ⟨al.hid, al.l.set k (some (a, none)) ++ [some (b, none)]⟩ ↔ x ∈ fp al)
    (s : Stp ⟨al.hid, al.l.set k (some (a, none)) ++ [some (b, none)]⟩ H al' H') (rel' : Rel K al' H' (deckO O k t n ns)) (hn : ns.length ≤ 64) : ∃ al3, Stp al H al3 H' ∧ Rel K al3 H' O := by
  have hkO : k < O.length := (List.getElem?_eq_some_iff.mp hk).1
  have hlen := rel.len
  have hlen' : al'.l.length = O.length + 1 := by
    rw [rel'.len]; unfold deckO; rw [List.length_append, List.length_set]; rfl
  have g1 : (al.l.set k (some (a, none)) ++ [some (b, none)])[k]? = some (some (a, none)) := by
    rw [List.getElem?_append_left (by rw [List.length_set, hlen]; exact hkO), List.getElem?_set_self (by rw [hlen]; exact hkO)]
  have g2 : (al.l.set k (some (a, none)) ++ [some (b, none)])[O.length]? = some (some (b, none)) := by
    rw [← hlen, List.getElem?_append_right (by rw [List.length_set]; exact Nat.le_refl _), List.length_set, Nat.sub_self]; rfl
  obtain ⟨o1, e1, q1⟩ := rel'.ok k _ (deckO_k hkO)
  obtain ⟨o2, e2, q2⟩ := rel'.ok O.length _ deckO_j
  have e1' : al'.l[k]? = some (some (a, none)) := by
    rcases s.old k _ g1 with z | z
    · exact z
    · rw [z] at e1; cases e1; exact (show False from q1).elim
  have e2' : al'.l[O.length]? = some (some (b, none)) := by
    rcases s.old O.length _ g2 with z | z
    · exact z
    · rw [z] at e2; cases e2; exact (show False from q2).elim
  rw [e1'] at e1; cases e1
  rw [e2'] at e2; cases e2
  obtain ⟨xs, h1, _, r1⟩ := q1
  obtain ⟨ys, h2, _, r2⟩ := q2
  have hx : xs = [V.ref b, .int t, .int n] := by
    cases r1 with
    | cons c1 r1 => cases r1 with
      | cons c2 r1 => cases r1 with
        | cons c3 r1 =>
          cases r1; cases c2; cases c3
          cases c1 with
          | own h hv => rw [e2'] at h; cases h; rw [hv _ rfl]
  have hy : ys = ns.map V.int := r2.intsI (ints_map (fun i => i) ns |> fun z => by simpa using z)
  subst hx hy
  have f1 : fp al' = al'.hid ++ (fpl ((al'.l.take O.length).take k) ++ ([a] ++ fpl ((al'.l.take O.length).drop (k + 1)))) ++ [b] := by
    have et : al'.l = al'.l.take O.length ++ [some (b, none)] := by
      have z := (List.take_append_drop O.length al'.l).symm
      rw [List.drop_eq_getElem_cons (by omega), List.drop_eq_nil_of_le (by omega)] at z
      rw [(List.getElem?_eq_some_iff.mp e2').2] at z
      exact z
    have z := fp_cut (al := ⟨al'.hid, al'.l.take O.length⟩) (k := k) (o := some (a, none)) (by rw [List.getElem?_take_of_lt hkO]; exact e1')
    have z2 : fp (AL.add ⟨al'.hid, al'.l.take O.length⟩ (some (b, none))) = _ := fp_add
    rw [z] at z2
    show al'.hid ++ fpl al'.l = _
    exact (congrArg (fun q => al'.hid ++ fpl q) et).trans z2
  have f3 : fp ⟨al'.hid, (al'.l.take O.length).set k (some (a, some b))⟩ = al'.hid ++ (fpl ((al'.l.take O.length).take k) ++ ([a, b] ++ fpl ((al'.l.take O.length).drop (k + 1)))) :=
    fp_setN (al := ⟨al'.hid, al'.l.take O.length⟩) (k := k) (o := some (a, none)) (o' := some (a, some b)) (by rw [List.getElem?_take_of_lt hkO]; exact e1')
  have pm : (fp ⟨al'.hid, (al'.l.take O.length).set k (some (a, some b))⟩).Perm (fp al') := by
    rw [f1, f3]
    have z1 : al'.hid ++ (fpl ((al'.l.take O.length).take k) ++ ([a] ++ fpl ((al'.l.take O.length).drop (k + 1)))) ++ [b] = (al'.hid ++ fpl ((al'.l.take O.length).take k) ++ [a]) ++ (fpl ((al'.l.take O.length).drop (k + 1)) ++ [b]) := by simp
    have z2 : al'.hid ++ (fpl ((al'.l.take O.length).take k) ++ ([a, b] ++ fpl ((al'.l.take O.length).drop (k + 1)))) = (al'.hid ++ fpl ((al'.l.take O.length).take k) ++ [a]) ++ ([b] ++ fpl ((al'.l.take O.length).drop (k + 1))) := by simp
    rw [z1, z2]
    exact List.Perm.append_left _ List.perm_append_comm
  have get3 : ∀ j, j < O.length → j ≠ k → ((al'.l.take O.length).set k (some (a, some b)))[j]? = al'.l[j]? := fun j hj hjk => by
    rw [List.getElem?_set_ne (Ne.symm hjk), List.getElem?_take_of_lt hj]
  have getk : ((al'.l.take O.length).set k (some (a, some b)))[k]? = some (some (a, some b)) := List.getElem?_set_self (by rw [List.length_take]; omega)
  refine ⟨⟨al'.hid, (al'.l.take O.length).set k (some (a, some b))⟩, ?_, ?_⟩
  · refine Stp.mk' (fun j o hj => ?_) (fun x hx => ?_) (fun x o hn' hx => s.keep x o (fun m => hn' ((iff x).mp m)) hx) s.there s.hid s.same
    · have hjO : j < O.length := by rw [← hlen]; exact (List.getElem?_eq_some_iff.mp hj).1
      by_cases z : j = k
      · subst z
        rw [ea] at hj; cases hj
        exact .inl getk
      · show ((al'.l.take O.length).set k _)[j]? = _ ∨ ((al'.l.take O.length).set k _)[j]? = _
        rw [get3 j hjO z]
        refine s.old j o ?_
        show (al.l.set k _ ++ [_])[j]? = _
        rw [List.getElem?_append_left (by rw [List.length_set, hlen]; exact hjO), List.getElem?_set_ne (Ne.symm z)]
        exact hj
    · rcases s.new x (pm.mem_iff.mp hx) with z | z
      · exact .inl ((iff x).mp z)
      · exact .inr z
  · refine ⟨?_, pm.nodup_iff.mpr rel'.nd, fun x hx => rel'.live x (pm.mem_iff.mp hx), fun x hx => rel'.nt x (pm.mem_iff.mp hx), fun j c hj => ?_⟩
    · show ((al'.l.take O.length).set k _).length = _
      rw [List.length_set, List.length_take]; omega
    · have hjO : j < O.length := (List.getElem?_eq_some_iff.mp hj).1
      by_cases z : j = k
      · subst z
        rw [hk] at hj; cases hj
        exact ⟨_, getk, ns, t, n, h1, h2, hn⟩
      · obtain ⟨o', e3, q⟩ := rel'.ok j c (by
          unfold deckO
          rw [List.getElem?_append_left (by rw [List.length_set]; exact hjO), List.getElem?_set_ne (Ne.symm z)]; exact hj)
        refine ⟨o', by show ((al'.l.take O.length).set k _)[j]? = _; rw [get3 j hjO z]; exact e3, q.iso (O := O) (fun x hx => pm.mem_iff.mp hx) (fun {vs ds} h hc => ?_) (rel.cl c (List.mem_of_getElem? hj))⟩
        refine RpA.isoC O.length (fun x hx => pm.mem_iff.mp hx) (fun i o hi e4 => ?_) h hc
        by_cases z3 : i = k
        · subst z3
          rw [e1'] at e4; cases e4
          exact ⟨_, getk, fun p' e' => by cases e'; exact ⟨_, rfl, rfl⟩⟩
        · exact ⟨o, by show ((al'.l.take O.length).set k _)[i]? = _; rw [get3 i hi z3]; exact e4, fun p' e' => ⟨p', e', rfl⟩⟩
end
end Px

namespace Px
open PySem PySem.Spec PyProof.Rows L2 RT
section
variable {prog : Program} {w : World} {A : Around} {E : Value → Shared → Prop} {s : Shared}
theorem extend_rev {R : Result → Shared → Prop} {it l : Addr} {items : Array Value} (hh : A.handled = none) (hit : s.heap.IsRevIter it l ((items.size : Int) - 1)) (hl : s.heap.IsList l items) (hne : l ≠ it) (hn : items.size ≤ sizeLine)
    (S : Addr) (hSi : S ≠ it) (hSl : S ≠ l) (res : Value) (c₀ : Nat) (hS : s.heap.get? S = some { cls := .type "list", data := .seq #[] c₀ })
    (hR : ∀ (h' : Heap) (tk : Nat) (acc : Array Value) c', (∀ b o, b ≠ S → b ≠ it → s.heap.get? b = some o → h'.get? b = some o) → h'.get? S = some { cls := .type "list", dict := none, data := .seq acc c', slots := #[] } → ItemsOf (fun i v => items[items.size - 1 - i]? = some v) acc items.size → R (.ok (.ret res)) { s with heap := h', toks := tk }) :
    wpAny (model prog w) A.in1 (Builtin.List.listExtendWith (.ref S) (.ref it) res)
      (fun fin s' => match fin with | .done f => R (.ok f) s' | .again c' => c'.quiet = true ∧ codeAny (model prog w) A c' R s') (fun e s' => R (.error e) s') s := by
  have W := (Walks.listRev (prog := prog) (w := w) (A := A.in1) hh it l hne items).toS
  have hSf : S ∉ [it, l] := by simp only [List.mem_cons, List.not_mem_nil, or_false, not_or]; exact ⟨hSi, hSl⟩
  have hT : s.TypeIs (.ref it) "list_reverseiterator" := hit.typeIs
  have h1 : Builtin.List.listSameRef (.ref S) (.ref it) = false := by simp [Builtin.List.listSameRef, hSi]
  unfold Builtin.List.listExtendWith
  refine wpAny_bind (wpAny_typeOf hT ?_)
  rw [if_neg (by rw [h1]; decide)]
  refine wpAny_bind (wpAny_pyIter_revIter hit ?_)
  refine wpAny_bind (wpAny_holding ?_)
  unfold Builtin.List.listLengthHint
  refine wpAny_bind (wpAny_specialOf hT nolen_lri ?_)
  show wpAny _ A.in1 (specialOf (Value.ref it) (Str.ofString "__length_hint__") >>= _) _ _ _
  refine wpAny_bind (wpAny_specialOf hT hint_lri ?_)
  generalize hid : ("list_reverseiterator.__length_hint__" : String) = id0
  wp_delta
  rw [show splitId id0 = some ("list_reverseiterator", "__length_hint__") from by subst hid; decide +kernel]
  subst hid
  refine wpAny_bind (wpAny_isInstance (b := true) hT (by rw [isSubtype_type]; kernel_rfl) ?_)
  refine wpAny_pure ?_
  rw [if_neg (by decide)]
  have e0 : ((items.size : Nat) : Int) - 1 - ((0 : Nat) : Int) = (items.size : Int) - 1 := by omega
  refine wpAny_pure ⟨plainId_quiet F.plain_extend_loop _, codeAny_extend_loopS W hn _ hSf _ items.size 0 _ _ _ rfl (Nat.zero_le _) ⟨Nat.zero_le _, by rw [e0]; exact hit, hl⟩ hS (ItemsOf.nil _) fun s' acc' c' hm hS' hacc => ?_⟩
  rw [Moved.eq_with hm]
  refine hR s'.heap s'.toks acc' c' (fun b o hb hb2 e => hm.heap b o (fun hmem => ?_) e) hS' hacc
  rcases List.mem_cons.mp hmem with e' | hmem
  · exact hb e'
  · exact hb2 (List.mem_singleton.mp hmem)
theorem init_rev {R : Result → Shared → Prop} {it l : Addr} {items : Array Value} (hh : A.handled = none) (hit : s.heap.IsRevIter it l ((items.size : Int) - 1)) (hl : s.heap.IsList l items) (hne : l ≠ it) (hn : items.size ≤ sizeLine)
    (S : Addr) (hSi : S ≠ it) (hSl : S ≠ l) (hS : s.heap.get? S = some { cls := .type "list", data := .seq #[] })
    (hR : ∀ (h' : Heap) (tk : Nat) (acc : Array Value) c', (∀ b o, b ≠ S → b ≠ it → s.heap.get? b = some o → h'.get? b = some o) → h'.get? S = some { cls := .type "list", dict := none, data := .seq acc c', slots := #[] } → ItemsOf (fun i v => items[items.size - 1 - i]? = some v) acc items.size → R (.ok (.ret .none)) { s with heap := h', toks := tk }) :
    wpAny (model prog w) A.in1 (Builtin.«list.__init__» ⟨[.ref S, .ref it], []⟩)
      (fun fin s' => match fin with | .done f => R (.ok f) s' | .again c' => c'.quiet = true ∧ codeAny (model prog w) A c' R s') (fun e s' => R (.error e) s') s := by
  show wpAny _ _ (do let old ← Builtin.List.listItems (.ref S); Builtin.List.listUpdate (.ref S) (fun _ => #[]); letGo old.toList.reverse; Builtin.List.listExtendWith (.ref S) (.ref it) .none) _ _ s
  refine wpAny_bind ?_
  unfold Builtin.List.listItems
  refine wpAny_bind (wpAny_seqItems hS rfl (wpAny_pure ?_))
  show wpAny _ _ (updateSeq S (fun _ => #[]) >>= fun _ => letGo (#[] : Array Value).toList.reverse >>= fun _ => Builtin.List.listExtendWith (.ref S) (.ref it) .none) _ _ s
  refine wpAny_bind (wpAny_updateSeq hS rfl ?_)
  have hS₂ := Heap.get?_update_self (Obj.mapSeq (fun _ => (#[] : Array Value))) hS rfl
  have oth : ∀ b o, b ≠ S → s.heap.get? b = some o → (s.heap.update S (Obj.mapSeq (fun _ => (#[] : Array Value)))).get? b = some o :=
    fun b o hb e => (Heap.get?_update_other _ _ (Ne.symm hb)).trans e
  refine wpAny_bind (wpAny_letGo ?_)
  refine extend_rev hh (hit.at fun o e => oth it o (Ne.symm hSi) e) (hl.at fun o e => oth l o (Ne.symm hSl) e) hne hn S hSi hSl .none _ hS₂ fun h' tk acc' c' hk hS' hacc => ?_
  exact hR h' tk acc' c' (fun b o hb hb2 e => hk b o hb hb2 (oth b o hb e)) hS' hacc
theorem call_list_rev {Q : Value → Shared → Prop} {it l : Addr} {items : Array Value} (hh : A.handled = none) (hit : s.heap.IsRevIter it l ((items.size : Int) - 1)) (hl : s.heap.IsList l items) (hne : l ≠ it) (hn : items.size ≤ sizeLine)
    (hQ : ∀ (h' : Heap) (tk : Nat) (acc : Array Value) c', (∀ b o, b ≠ it → s.heap.get? b = some o → h'.get? b = some o) → h'.get? s.heap.objs.size = some { cls := .type "list", dict := none, data := .seq acc c', slots := #[] } → ItemsOf (fun i v => items[items.size - 1 - i]? = some v) acc items.size → Q (.ref s.heap.objs.size) { s with heap := h', toks := tk }) :
    wpAny (model prog w) A (call (.type "list") [.ref it]) Q E s := by
  refine callType_codes (Q₁ := fun obj s₁ => obj = .ref s.heap.objs.size ∧ s₁ = { s with heap := s.heap.push { cls := .type "list", data := .seq #[] } }) PySem.F.called_list (PySem.F.typeCall_list_1 _) PySem.F.entry_list_init
    (code_list_new _ ⟨rfl, rfl⟩) fun obj s₁ h₁ => ?_
  obtain ⟨rfl, rfl⟩ := h₁
  have hS : (s.heap.push { cls := .type "list", data := .seq #[] }).get? s.heap.objs.size = some { cls := .type "list", data := .seq #[] } := Heap.get?_push_size _ rfl
  obtain ⟨oi, hoi, _⟩ := id hit
  obtain ⟨ol, hol, _⟩ := id hl
  refine ⟨⟨_, hS, rfl⟩, PySem.F.args_list_init_2 _ _, init_rev (A := A.in1) hh (hit.at fun o e => Heap.get?_push_of_some _ e) (hl.push _) hne hn _ (Nat.ne_of_gt (Heap.lt_size hoi)) (Nat.ne_of_gt (Heap.lt_size hol)) hS fun h' tk acc' c' hk hS' hacc => ?_⟩
  exact ⟨rfl, hQ h' tk acc' c' (fun b o hb e => hk b o (Nat.ne_of_lt (Heap.lt_size e)) hb (Heap.get?_push_of_some _ e)) hS' hacc⟩
end
def tListRev (K : PySem.W.Frag) (te : TE) : TE := fun σ H Q => te σ H fun v H1 => ∃ (a : Addr) (xs : List V), v = .ref a ∧ SqL K H1 a xs ∧ ∀ q, H1 q = none → Q (.ref q) (upd H1 q (.lst xs.reverse))
theorem pe_listRev {X : Cx} {e : Expr} {te : TE} {p p2 pos pos2 : Pos} (hc : X.calm = true) (hg : Gl X "list") (hm : X.mg "list" = none) (hg2 : Gl X "reversed") (hm2 : X.mg "reversed" = none) (he : PE X e te)
    (hs : starEach [e] X.env = (false, eval e X.env) :: starEach [] X.env := by rfl)
    (hs2 : starEach [.Call (.Name "reversed" p2) [e] [] pos2] X.env = (false, eval (.Call (.Name "reversed" p2) [e] [] pos2) X.env) :: starEach [] X.env := by rfl) :
    PE X (.Call (.Name "list" p) [.Call (.Name "reversed" p2) [e] [] pos2] [] pos) (tListRev X.K te) := by
  refine ⟨fun pins s σ H Q I h => ?_⟩
  refine Call_ (ld_blt I hg hm boot_list (PyProof.Rows.callWith_type1 (args_cons (Call_ (ld_blt I hg2 hm2 PyProof.Rows.boot_reversed (PyProof.Rows.callWith_type1 (args_cons (thn (he.run pins s σ H _ I h) fun u s1 ⟨v, H1, I1, r1, q1⟩ => args_nil ?_) hs) hs rfl))) hs2) hs2 rfl))
  obtain ⟨a, xs, ev, hq, q⟩ := q1
  subst ev
  obtain rfl : u = Value.ref a := r1
  obtain ⟨its, rv, p', hz⟩ := I1.list hq
  refine call_reversed_list p'.isList (args_nil ?_)
  have k0 : ∀ b o, s1.heap.get? b = some o → (s1.heap.push (revObj a ((its.toArray.size : Int) - 1))).get? b = some o := fun b o e => Heap.get?_push_of_some _ e
  have I2 : Inv X pins σ H1 { s1 with heap := s1.heap.push (revObj a ((its.toArray.size : Int) - 1)) } := I1.kept (t' := s1.toks) k0
  obtain ⟨f0, f1, f2, f3, f4, f5⟩ := I1.fpOk (H' := H1) (b := s1.heap.objs.size) (Nat.le_refl _) (I1.hok.fresh (Nat.le_refl _))
  have hl := p'.isList
  obtain ⟨ol, hol, _⟩ := id hl
  have hne : a ≠ s1.heap.objs.size := Nat.ne_of_lt (Heap.lt_size hol)
  have hn : its.toArray.size ≤ sizeLine := by rw [List.size_toArray, ← rv.length]; exact hz
  refine call_list_rev (s := { s1 with heap := s1.heap.push (revObj a ((its.toArray.size : Int) - 1)) }) (I1.ok.hd hc) ⟨_, Heap.get?_push_size _ rfl, rfl, rfl⟩ (hl.push _) hne hn fun h' tk acc c' hk hS' hi => ?_
  have hT : (s1.heap.push (revObj a ((its.toArray.size : Int) - 1))).objs.size = s1.heap.objs.size + 1 := Heap.size_push ..
  refine ⟨.ref _, upd H1 (s1.heap.push (revObj a ((its.toArray.size : Int) - 1))).objs.size (.lst xs.reverse), I2.turnedNew (t' := tk) (ch := [s1.heap.objs.size]) (fun b o hb e => hk b o (fun z => hb (by rw [z]; exact List.mem_cons_self)) e) (fun b hb => by
    rw [List.mem_singleton.mp hb]; exact ⟨f0, f1, f2, f3, f4, f5⟩) (Nat.le_refl _) ?_, rfl, q _ (I2.hok.fresh (Nat.le_refl _))⟩
  refine (show ObjOk X.prog X.w _ _ _ (.lst xs.reverse) from ⟨by rw [List.length_reverse]; exact hz, acc.toList, c', vals_rev rv hi, ?_⟩)
  rw [Array.toArray_toList]
  exact hS'
def dRev (O : Om) (d : D) (Q : List D → Prop) : Prop := optK (lstD O d) fun ds => Q ds.reverse
def xListRev (a : TX) : TX := fun G O Q E => a G O (fun d O1 => dRev O1 d fun ds => Q (.lst ds) O1) E
def xListRevO (a : TX) : TX := fun G O Q E => a G O (fun d O1 => dRev O1 d fun ds => Q (.own O1.length) (O1 ++ [.lst ds])) E
section
variable {K : PySem.W.Frag} {W : WX} {al : AL} {H : Hp} {O : Om}
theorem RpA.reverse {vs : List V} {ds : List D} (r : RpA K al H vs ds) : RpA K al H vs.reverse ds.reverse := by
  induction vs generalizing ds with
  | nil => cases r; exact .nil
  | cons v vs ih =>
    cases r with
    | cons h t => rw [List.reverse_cons, List.reverse_cons]; exact (ih t).append (.cons h .nil)
theorem rd_listRevO {te : TE} {t : TX} (h : RdE K W te t) : RdE K W (tListRev K te) (xListRevO t) := by
  intro al H σ G O Q E R rel env q hq he
  refine h al H σ G O _ E _ rel env q (fun al1 H1 O1 v d s1 rel1 r1 q1 => ?_) he
  obtain ⟨ds, e1, q1⟩ := optK.ex q1
  obtain ⟨a, xs, rfl, h1, h2, h3⟩ := lstD_rp rel1 r1 e1
  refine ⟨a, xs, rfl, h1, fun p hp => hq _ _ _ _ _ (s1.trans (stp_own rel1.live hp)) (rel1.own (c := .lst ds.reverse) hp ⟨xs.reverse, upd_same, by rw [List.length_reverse]; exact h3, (h2.reverse).mono (stp_own rel1.live hp)⟩) ?_ q1⟩
  rw [← rel1.len]
  exact own_new
theorem rd_listRev {te : TE} {t : TX} (h : RdE K W te t) : RdE K W (tListRev K te) (xListRev t) := by
  intro al H σ G O Q E R rel env q hq he
  refine h al H σ G O _ E _ rel env q (fun al1 H1 O1 v d s1 rel1 r1 q1 => ?_) he
  obtain ⟨ds, e1, q1⟩ := optK.ex q1
  obtain ⟨a, xs, rfl, h1, h2, h3⟩ := lstD_rp rel1 r1 e1
  exact ⟨a, xs, rfl, h1, fun p hp => hq _ _ _ _ _ (s1.trans (stp_new rel1.live hp)) (rel1.new hp) (new_lst rel1 hp h2.reverse (by rw [List.length_reverse]; exact h3)) q1⟩
end
section
variable {X : Cx} {W : WX} {e : Expr} {p p2 pos pos2 : Pos}
theorem px_listRevO {t : TX} (hm : X.mg "list" = none) (hm2 : X.mg "reversed" = none) (h : PX X W e t) (hc : X.calm = true := by rfl) (hg : Gl X "list" := by rfl) (hg2 : Gl X "reversed" := by rfl)
    (hs : starEach [e] X.env = (false, eval e X.env) :: starEach [] X.env := by rfl)
    (hs2 : starEach [.Call (.Name "reversed" p2) [e] [] pos2] X.env = (false, eval (.Call (.Name "reversed" p2) [e] [] pos2) X.env) :: starEach [] X.env := by rfl) :
    PX X W (.Call (.Name "list" p) [.Call (.Name "reversed" p2) [e] [] pos2] [] pos) (xListRevO t) := let ⟨_, p, q⟩ := h; ⟨_, pe_listRev hc hg hm hg2 hm2 p hs hs2, rd_listRevO q⟩
theorem px_listRev {t : TX} (hm : X.mg "list" = none) (hm2 : X.mg "reversed" = none) (h : PX X W e t) (hc : X.calm = true := by rfl) (hg : Gl X "list" := by rfl) (hg2 : Gl X "reversed" := by rfl)
    (hs : starEach [e] X.env = (false, eval e X.env) :: starEach [] X.env := by rfl)
    (hs2 : starEach [.Call (.Name "reversed" p2) [e] [] pos2] X.env = (false, eval (.Call (.Name "reversed" p2) [e] [] pos2) X.env) :: starEach [] X.env := by rfl) :
    PX X W (.Call (.Name "list" p) [.Call (.Name "reversed" p2) [e] [] pos2] [] pos) (xListRev t) := let ⟨_, p, q⟩ := h; ⟨_, pe_listRev hc hg hm hg2 hm2 p hs hs2, rd_listRev q⟩
end

def T_draw : SpX := fun ds O Q _ => match ds with
  | [.own k, .int m] => O[k]? = some .deck ∧ CW m ∧ ∀ r, 0 ≤ r → r < m → Q (.int r) O
  | _ => False
def T_open : SpX := fun ds O Q _ => match ds with
  | [.own k, .int m] => ∃ O0 t n ns, O0[k]? = some .deck ∧ O = deckO O0 k t n ns ∧ ns.length ≤ 64 ∧ CW m ∧ ∀ r t' n' ns', 0 ≤ r → r < m → ns'.length ≤ 64 → Q (.int r) (deckO O0 k t' n' ns')
  | _ => False
theorem draw_close {K : PySem.W.Frag} : ∀ vs H Q E, spX K T_draw vs H Q E → spX K T_open vs H Q E := by
  rintro vs H Q E ⟨al, O, ds, Qx, Ex, rel, r, h, hq, he⟩
  match ds, h with
  | [.own k, .int m], ⟨h1, h2, h3⟩ =>
    obtain ⟨a, b, ns, t, n, e1, e2, rel2, iff⟩ := deck_open rel h1
    have hkl : k < al.l.length := (List.getElem?_eq_some_iff.mp e1).1
    cases r with
    | cons r1 r =>
      cases r with
      | cons r2 r =>
        cases r; cases r2
        cases r1 with
        | own h hv =>
          rw [e1] at h; cases h
          obtain rfl := hv _ rfl
          refine ⟨_, _, [.own k, .int m], fun d O' => ∃ r t' n' ns', d = .int r ∧ 0 ≤ r ∧ r < m ∧ ns'.length ≤ 64 ∧ O' = deckO O k t' n' ns', fun _ _ => False, rel2, .cons (.own (o := some (a, none)) ?_ (fun p e => by cases e; rfl)) (.cons (.int _) .nil), ⟨O, t, n, ns, h1, rfl, e2, h2, fun r t' n' ns' z1 z2 z3 => ⟨r, t', n', ns', rfl, z1, z2, z3, rfl⟩⟩, ?_, fun _ _ _ _ _ _ _ _ _ z => z.elim⟩
          · show (al.l.set k _ ++ [_])[k]? = _
            rw [List.getElem?_append_left (by rw [List.length_set]; exact hkl), List.getElem?_set_self hkl]
          · rintro al' H' O' v d s' rel' r' ⟨r, t', n', ns', rfl, z1, z2, z3, rfl⟩
            obtain ⟨al3, s3, rel3⟩ := deck_close rel h1 e1 iff s' rel' z3
            cases r'
            exact hq al3 H' O _ _ s3 rel3 (.int _) (h3 r z1 z2)
theorem fn_draw {P : Program} {w : World} {K : PySem.W.Frag} {mg : Str → Option Value} {base : Heap} {k : Nat} {f : Addr} {fd : FuncData} {ps : List Str} (F : FnX P w K mg base k f fd ps T_open) : FnX P w K mg base k f fd ps T_draw := FnOk.imp F draw_close
def T_deck : SpX := fun ds O Q _ => match ds with
  | [.lst es] => ∃ ns : List Int, es = ns.map .int ∧ ns.length ≤ 63 ∧ Q (.own O.length) (O ++ [.deck])
  | _ => False
def T_deckO : SpX := fun ds O Q _ => match ds with
  | [.lst es] => ∃ ns : List Int, es = ns.map .int ∧ ns.length ≤ 63 ∧ ∀ (t n : Int) (ms : List Int), ms.length ≤ 64 → Q (.own (O.length + 1)) (O ++ [.lst (ms.map .int), .lst [.own O.length, .int t, .int n]])
  | _ => False
theorem deck_made {K : PySem.W.Frag} {al al' : AL} {H H' : Hp} {O : Om} {v : V} {t n : Int} {ms : List Int} (hn : ms.length ≤ 64) (rel : Rel K al H O) (s : Stp al H al' H') (rel' : Rel K al' H' (O ++ [.lst (ms.map .int), .lst [.own O.length, .int t, .int n]])) (r : Rp K al' H' v (.own (O.length + 1))) :
    ∃ al3, Stp al H al3 H' ∧ Rel K al3 H' (O ++ [.deck]) ∧ Rp K al3 H' v (.own O.length) := by
  have hlen := rel.len
  have hlen' : al'.l.length = O.length + 2 := by rw [rel'.len, List.length_append]; rfl
  have g0 : (O ++ [Cell.lst (ms.map .int), .lst [.own O.length, .int t, .int n]])[O.length]? = some (.lst (ms.map .int)) := by
    rw [List.getElem?_append_right (Nat.le_refl _), Nat.sub_self]; rfl
  have g1 : (O ++ [Cell.lst (ms.map .int), .lst [.own O.length, .int t, .int n]])[O.length + 1]? = some (.lst [.own O.length, .int t, .int n]) := by
    rw [List.getElem?_append_right (Nat.le_succ _), show O.length + 1 - O.length = 1 from by omega]; rfl
  obtain ⟨o2, e2, q2⟩ := rel'.ok _ _ g0
  obtain ⟨o1, e1, q1⟩ := rel'.ok _ _ g1
  match o1, o2, q1, q2 with
  | some (a, none), some (b, none), ⟨xs, h1, _, r1⟩, ⟨ys, h2, _, r2⟩ =>
    have hv : v = .ref a := by
      cases r with
      | own h hv => rw [e1] at h; cases h; exact hv _ rfl
    subst hv
    have hx : xs = [V.ref b, .int t, .int n] := by
      cases r1 with
      | cons c1 r1 => cases r1 with
        | cons c2 r1 => cases r1 with
          | cons c3 r1 =>
            cases r1; cases c2; cases c3
            cases c1 with
            | own h hv => rw [e2] at h; cases h; rw [hv _ rfl]
    have hy : ys = ms.map V.int := r2.intsI (ints_map (fun i => i) ms |> fun z => by simpa using z)
    subst hx hy
    have et : al'.l = al'.l.take O.length ++ [some (b, none), some (a, none)] := by
      have z := (List.take_append_drop O.length al'.l).symm
      rw [List.drop_eq_getElem_cons (by omega), List.drop_eq_getElem_cons (by omega), List.drop_eq_nil_of_le (by omega)] at z
      rw [(List.getElem?_eq_some_iff.mp e2).2, (List.getElem?_eq_some_iff.mp e1).2] at z
      exact z
    have f1 : fp al' = fp (al'.cut O.length) ++ [b, a] := by
      have z : fp ⟨al'.hid, al'.l.take O.length ++ [some (b, none), some (a, none)]⟩ = fp (al'.cut O.length) ++ [b, a] := by
        simp [fp, fpl, AL.cut, List.flatMap_append, fpo]
      exact (congrArg (fun q => fp ⟨al'.hid, q⟩) et).trans z
    have f3 : fp ((al'.cut O.length).add (some (a, some b))) = fp (al'.cut O.length) ++ [a, b] := fp_add
    have pm : (fp ((al'.cut O.length).add (some (a, some b)))).Perm (fp al') := by
      rw [f1, f3]
      exact List.Perm.append_left _ (List.Perm.swap b a [])
    have lc : (al'.cut O.length).l.length = O.length := by show (al'.l.take O.length).length = _; rw [List.length_take]; omega
    have gn : ((al'.cut O.length).add (some (a, some b))).l[O.length]? = some (some (a, some b)) := by
      have z := add_new (al := al'.cut O.length) (o := some (a, some b))
      rw [lc] at z; exact z
    have gj : ∀ j, j < O.length → ((al'.cut O.length).add (some (a, some b))).l[j]? = al'.l[j]? := fun j hj => by
      rw [add_get (by rw [lc]; exact hj)]
      exact cut_get hj
    refine ⟨(al'.cut O.length).add (some (a, some b)), ?_, ⟨?_, pm.nodup_iff.mpr rel'.nd, fun x hx => rel'.live x (pm.mem_iff.mp hx), fun x hx => rel'.nt x (pm.mem_iff.mp hx), fun j c hj => ?_⟩, .own gn (fun p e => by cases e; rfl)⟩
    · refine Stp.mk' (fun j o hj => ?_) (fun x hx => s.new x (pm.mem_iff.mp hx)) s.keep s.there s.hid s.same
      have hjO : j < O.length := by rw [← hlen]; exact (List.getElem?_eq_some_iff.mp hj).1
      rw [gj j hjO]
      exact s.old j o hj
    · show ((al'.cut O.length).l ++ [_]).length = _
      rw [List.length_append, List.length_append, lc]; rfl
    · by_cases z : j < O.length
      · rw [List.getElem?_append_left z] at hj
        obtain ⟨o', e3, q⟩ := rel'.ok j c (by rw [List.getElem?_append_left z]; exact hj)
        refine ⟨o', by rw [gj j z]; exact e3, q.iso (O := O) (fun x hx => pm.mem_iff.mp hx) (fun {vs ds} h hc => ?_) (rel.cl c (List.mem_of_getElem? hj))⟩
        exact RpA.isoC O.length (fun x hx => pm.mem_iff.mp hx) (fun i o hi e4 => ⟨o, by rw [gj i hi]; exact e4, fun p' e' => ⟨p', e', rfl⟩⟩) h hc
      · rw [List.getElem?_append_right (Nat.le_of_not_lt z)] at hj
        have z2 : j - O.length = 0 := by
          have := (List.getElem?_eq_some_iff.mp hj).1
          simp at this; omega
        rw [z2] at hj; cases hj
        have z3 : j = O.length := by omega
        subst z3
        exact ⟨_, gn, ms, t, n, h1, h2, hn⟩
theorem fn_deck {P : Program} {w : World} {K : PySem.W.Frag} {mg : Str → Option Value} {base : Heap} {k : Nat} {f : Addr} {fd : FuncData} {ps : List Str} (F : FnX P w K mg base k f fd ps T_deckO) : FnX P w K mg base k f fd ps T_deck := by
  refine FnOk.imp F ?_
  rintro vs H Q E ⟨al, O, ds, Qx, Ex, rel, r, h, hq, he⟩
  match ds, h with
  | [.lst es], ⟨ns, h1, h2, h3⟩ =>
    refine ⟨al, O, [.lst es], fun d O' => ∃ (t n : Int) (ms : List Int), d = .own (O.length + 1) ∧ List.length ms ≤ 64 ∧ O' = O ++ [.lst (ms.map .int), .lst [.own O.length, .int t, .int n]], fun _ _ => False, rel, r, ⟨ns, h1, h2, fun t n ms hm => ⟨t, n, ms, rfl, hm, rfl⟩⟩, ?_, fun _ _ _ _ _ _ _ _ _ z => z.elim⟩
    rintro al' H' O' v d s' rel' r' ⟨t, n, ms, rfl, hm, rfl⟩
    obtain ⟨al3, s3, rel3, r3⟩ := deck_made hm rel s' rel' r'
    exact hq al3 H' _ _ _ s3 rel3 r3 h3
end Px

namespace Px
open PySem PySem.Spec PyProof.Rows L2
theorem lcGo0_mapL {α : Type} {g : TGX} {tt : TTX} {te : TX} {grd : Om → Prop} {G : Gam} {Q : QX} (φ f : α → D) {O : Om} {l : List α} (hg : grd O)
    (h : ∀ a ∈ l, ∀ (k : QX) (k' : Om → Prop), k (f a) O → g (φ a) G O (fun G1 O1 => tt G1 O1 (fun b O2 => xite b (te G1 O2 k noE) (k' O2)) noE) noE) (q : Q (.lst (l.map f)) O) : lcGo0 g tt te grd G Q (l.map φ) [] O := by
  have gen : ∀ (l : List α) (acc : List D), (∀ a ∈ l, ∀ (k : QX) (k' : Om → Prop), k (f a) O → g (φ a) G O (fun G1 O1 => tt G1 O1 (fun b O2 => xite b (te G1 O2 k noE) (k' O2)) noE) noE) → Q (.lst (acc ++ l.map f)) O → lcGo0 g tt te grd G Q (l.map φ) acc O := by
    intro l
    induction l with
    | nil => intro acc _ q; exact ⟨hg, by rw [List.map_nil, List.append_nil] at q; exact q⟩
    | cons a l ih =>
      intro acc h q
      refine ⟨hg, h a List.mem_cons_self _ (fun O2 => lcGo0 g tt te grd G Q (l.map φ) acc O2) ?_⟩
      exact ih _ (fun b hb => h b (List.mem_cons_of_mem _ hb)) (by rw [List.append_assoc]; exact q)
  exact gen l [] h q
theorem lcGo0_fmL {α : Type} {g : TGX} {tt : TTX} {te : TX} {grd : Om → Prop} {G : Gam} {Q : QX} (φ : α → D) (f : α → Option D) {O : Om} {l : List α} (hg : grd O)
    (h : ∀ a ∈ l, ∀ (k : QX) (k' : Om → Prop), (match f a with | some y => k y O | none => k' O) → g (φ a) G O (fun G1 O1 => tt G1 O1 (fun b O2 => xite b (te G1 O2 k noE) (k' O2)) noE) noE) (q : Q (.lst (l.filterMap f)) O) : lcGo0 g tt te grd G Q (l.map φ) [] O := by
  have gen : ∀ (l : List α) (acc : List D), (∀ a ∈ l, ∀ (k : QX) (k' : Om → Prop), (match f a with | some y => k y O | none => k' O) → g (φ a) G O (fun G1 O1 => tt G1 O1 (fun b O2 => xite b (te G1 O2 k noE) (k' O2)) noE) noE) → Q (.lst (acc ++ l.filterMap f)) O → lcGo0 g tt te grd G Q (l.map φ) acc O := by
    intro l
    induction l with
    | nil => intro acc _ q; exact ⟨hg, by rw [List.filterMap_nil, List.append_nil] at q; exact q⟩
    | cons a l ih =>
      intro acc h q
      refine ⟨hg, h a List.mem_cons_self _ (fun O2 => lcGo0 g tt te grd G Q (l.map φ) acc O2) ?_⟩
      cases e : f a with
      | none =>
        rw [List.filterMap_cons_none e] at q
        exact ih _ (fun b hb => h b (List.mem_cons_of_mem _ hb)) q
      | some y =>
        rw [List.filterMap_cons_some e] at q
        exact ih _ (fun b hb => h b (List.mem_cons_of_mem _ hb)) (by rw [List.append_assoc]; exact q)
  exact gen l [] h q
theorem lcGo_mapL {α : Type} {g : TGX} {tt : TTX} {te : TX} {grd : Om → Prop} {G : Gam} {Q : QX} (φ f : α → D) {O : Om} {l : List α} (hg : grd O)
    (h : ∀ a ∈ l, ∀ (k : QX) (k' : Om → Prop), k (f a) O → g (φ a) G O (fun G1 O1 => tt G1 O1 (fun b O2 => xite b (te G1 O2 k noE) (k' O2)) noE) noE) (q : Q (.lst (l.map f)) O) : lcGo g tt te grd G Q (l.map φ) [] O := .mk (lcGo0_mapL φ f hg h q)
theorem lcGo_fmL {α : Type} {g : TGX} {tt : TTX} {te : TX} {grd : Om → Prop} {G : Gam} {Q : QX} (φ : α → D) (f : α → Option D) {O : Om} {l : List α} (hg : grd O)
    (h : ∀ a ∈ l, ∀ (k : QX) (k' : Om → Prop), (match f a with | some y => k y O | none => k' O) → g (φ a) G O (fun G1 O1 => tt G1 O1 (fun b O2 => xite b (te G1 O2 k noE) (k' O2)) noE) noE) (q : Q (.lst (l.filterMap f)) O) : lcGo g tt te grd G Q (l.map φ) [] O := .mk (lcGo0_fmL φ f hg h q)
theorem atI_pick {α : Type} {xs : List α} {i : Int} (h0 : 0 ≤ i) (h1 : i < xs.length) : ∃ x, x ∈ xs ∧ atI xs i = some x := by
  have hj : i.toNat < xs.length := by omega
  refine ⟨xs[i.toNat], List.getElem_mem hj, ?_⟩
  have e := atI_nat (xs := xs) (List.getElem?_eq_getElem hj)
  rwa [Int.toNat_of_nonneg h0] at e
theorem cutS_hi {z : Str} {i : Int} (h0 : 0 ≤ i) (h1 : i ≤ z.length) : (cutS z none (some i)).length = i.toNat := by
  unfold cutS Str.length
  have e1 : HT.sIx z.length 0 none = 0 := rfl
  have e2 : HT.sIx z.length z.length (some i) = i.toNat := by
    have e := HT.sIx_nat z.length z.length i.toNat
    rw [Int.toNat_of_nonneg h0] at e
    rw [e]; omega
  show ((z.cps.toList.drop (HT.sIx z.length 0 none)).take (HT.sIx z.length z.length (some i) - HT.sIx z.length 0 none)).toArray.size = _
  rw [e1, e2, List.size_toArray, List.length_take, List.drop_zero, Array.length_toList]
  have : z.length = z.cps.size := rfl
  omega
theorem cutS_lo {z : Str} {i : Int} (h0 : 0 ≤ i) (h1 : i ≤ z.length) : (cutS z (some i) none).length = z.length - i.toNat := by
  unfold cutS Str.length
  have e1 : HT.sIx z.length z.length none = z.length := rfl
  have e2 : HT.sIx z.length 0 (some i) = i.toNat := by
    have e := HT.sIx_nat z.length 0 i.toNat
    rw [Int.toNat_of_nonneg h0] at e
    rw [e]; omega
  show ((z.cps.toList.drop (HT.sIx z.length 0 (some i))).take (HT.sIx z.length z.length none - HT.sIx z.length 0 (some i))).toArray.size = _
  rw [e1, e2, List.size_toArray, List.length_take, List.length_drop, Array.length_toList]
  have : z.length = z.cps.size := rfl
  omega
theorem str_nil {x : Str} (h : x.length = 0) : x = ("" : Str) := by
  obtain ⟨a⟩ := x
  have h' : a.size = 0 := h
  have : a = #[] := Array.eq_empty_of_size_eq_zero h'
  subst this
  rfl
theorem get_app {O G : Om} {k : Nat} {c : Cell} (h : O[k]? = some c) : (O ++ G)[k]? = some c := by
  rw [List.getElem?_append_left (List.getElem?_eq_some_iff.mp h).1]; exact h
theorem get_new {O : Om} {c : Cell} : (O ++ [c])[O.length]? = some c := by
  rw [List.getElem?_append_right (Nat.le_refl _), Nat.sub_self]; rfl
theorem strs_sum1 : ∀ {l : List Nat}, ((l.map fun c => (⟨#[c]⟩ : Str)).map (·.length)).sum = l.length
  | [] => rfl
  | c :: l => by
    show 1 + ((l.map fun c => (⟨#[c]⟩ : Str)).map (·.length)).sum = l.length + 1
    rw [strs_sum1, Nat.add_comm]
theorem join0_le {ys : List Str} : (Txt.join "" ys).length ≤ (ys.map (·.length)).sum := by
  rw [TL.join_eq]
  have e := StrLaws.join_length_le "" ys
  rwa [show ("" : Str).length = 0 from rfl, Nat.mul_zero, Nat.add_zero] at e
def xDNewK : TX := fun _ O Q _ => Q (.own O.length) (O ++ [.dK []])
def xDNewT : TX := fun _ O Q _ => Q (.own O.length) (O ++ [.dT []])
theorem rd_dnewK {K : PySem.W.Frag} {W : WX} : RdE K W tDNewK xDNewK := by
  intro al H σ G O Q E R rel env q hq he p hp
  refine hq _ _ _ _ _ (stp_own rel.live hp) (rel.own (c := .dK []) hp ⟨[], upd_same, rfl, .nil⟩) ?_ q
  rw [← rel.len]
  exact own_new
theorem rd_dnewT {K : PySem.W.Frag} {W : WX} : RdE K W tDNewT xDNewT := by
  intro al H σ G O Q E R rel env q hq he p hp
  refine hq _ _ _ _ _ (stp_own rel.live hp) (rel.own (c := .dT []) hp ⟨[], upd_same, rfl, .nil⟩) ?_ q
  rw [← rel.len]
  exact own_new
theorem px_dnewK {X : Cx} {W : WX} {pos : Pos} : PX X W (.Dict [] [] pos) xDNewK := ⟨_, pe_dnewK, rd_dnewK⟩
theorem px_dnewT {X : Cx} {W : WX} {pos : Pos} : PX X W (.Dict [] [] pos) xDNewT := ⟨_, pe_dnewT, rd_dnewT⟩
theorem no_cx {P : Program} {w : World} {outer : List Env} {H : Hp} {s s' : Shared} {u : Value} (h : L2.CX P w outer H s (fun _ _ _ => False) u s') : False := by
  obtain ⟨_, _, _, _, _, _, _, _, _, _, _, _, z⟩ := h
  exact z
theorem sp_start {K : PySem.W.Frag} {H : Hp} {a : Addr} {ns : List Int} {T : SpX} (hS : SqL K H a (ns.map V.int)) (hT : T [.lst (ns.map .int)] [] (fun d _ => d = .bl true) (fun _ _ => False)) (hl : ns.length ≤ 63 := by assumption) : spX K T [.ref a] H (fun v _ => v = .bl true) fun _ _ _ => False := by
  have rel : Rel K ⟨[], []⟩ H [] := ⟨rfl, List.nodup_nil, (fun _ h => nomatch h), (fun _ h => nomatch h), fun k c h => by simp at h⟩
  refine ⟨⟨[], []⟩, [], [.lst (ns.map .int)], fun d _ => d = .bl true, fun _ _ => False, rel, .cons (.lst ?_ ?_ intsR) .nil, hT, ?_, fun _ _ _ _ _ _ _ _ _ z => z.elim⟩
  · rcases hS with z | z
    · exact .inl ⟨(fun m => nomatch m), z⟩
    · exact .inr (.inr z)
  · rw [List.length_map]; exact Nat.le_trans hl (by rw [sizeLine_eq]; decide)
  · rintro al' H' O' v d _ _ r rfl
    cases r; rfl
theorem walk_px {l : PySem.W.OpenLaw} {k : Nat} {q : Program} {loose : List Str} {XP : (Str → Option Value) → Heap → Prop} {YP : World → Heap → Prop} {d : DefRec} {K : Params → PySem.W.Frag} {x : Str} {T : SpX}
    (hn : l.most = some 63) (hdf : d.params.defaults = []) (hr : Room k callerA) (hY : ∀ (w : World) (h : Heap), YP w h → (K w.params).In h)
    (F : ∀ (w : World) (mg : Str → Option Value) (fa : Addr) (h : Heap), (K w.params).In h → h.Ns mainGlobals mg → mg d.name = some (.ref fa) →
      ∃ fd : FuncData, (∀ (s : Shared) (u : Value), BindsTo s fd ⟨[u], []⟩ [(x, u)]) ∧ ∀ base : Heap, (K w.params).In base → base.Ns mainGlobals mg → FnOk l.prog w (K w.params) mg base (L2.CX l.prog w) k fa fd [x] (spX (K w.params) T))
    (hT : ∀ ns : List Int, ns.length ≤ 63 → T [.lst (ns.map .int)] [] (fun d _ => d = .bl true) (fun _ _ => False)) : PySem.W.WalkO q loose XP YP l.row.toRowW d [] (fun f vs => PySem.call f vs) :=
  walk_of (K := K) (n := 63) (CX := fun w => L2.CX l.prog w) (sp := fun w => spX (K w.params) T) hn (by rw [sizeLine_eq]; decide) hdf hr hY F (fun w H a ns h1 _ h3 => sp_start h3 (hT ns h1)) fun w H s e s' h => no_cx h
end Px

namespace Px
open PySem PySem.Spec PyProof.Rows L2
/-! ### texts: a text times a number, index, int(text) -/
def mulS (x : Str) (n : Int) : Str := ⟨((List.replicate n.toNat x.cps.toList).flatten).toArray⟩
theorem mulS_eq {x : Str} {n : Int} : Txt.mul x n = mulS x n := by
  have fl : ∀ (l : List (Array Nat)) (a : Array Nat), (l.foldl (· ++ ·) a).toList = a.toList ++ (l.map (·.toList)).flatten := fun l => by
    induction l with
    | nil => intro a; simp
    | cons b l ih => intro a; rw [List.foldl_cons, ih]; simp
  refine Str.ext' (Array.toList_inj.mp ?_)
  show _ = (List.replicate n.toNat x.cps.toList).flatten
  unfold Txt.mul
  split
  · have e : n.toNat = 0 := by omega
    rw [e]; rfl
  · split
    · rename_i h1 h2
      rw [Bool.or_eq_true, beq_iff_eq, beq_iff_eq] at h2
      rcases h2 with e | e
      · subst e
        show _ = (List.replicate 1 x.cps.toList).flatten
        simp
      · have e0 : x.cps.toList = [] := List.length_eq_zero_iff.mp (by rw [Array.length_toList]; exact e)
        rw [e0]
        symm
        rw [List.flatten_eq_nil_iff]
        intro l hl
        exact List.eq_of_mem_replicate hl
    · show (_ : Array Nat).toList = _
      rw [fl]; simp
theorem mulS_len {x : Str} {n : Int} : (mulS x n).length = x.length * n.toNat := by
  show (List.toArray _).size = _
  rw [List.size_toArray, List.length_flatten, List.map_replicate, List.sum_replicate_nat, Array.length_toList, Nat.mul_comm]
  rfl
theorem mulS_mem {x : Str} {n : Int} {c : Nat} (h : c ∈ (mulS x n).cps.toList) : c ∈ x.cps.toList := by
  have h' : c ∈ (List.replicate n.toNat x.cps.toList).flatten := h
  obtain ⟨l, h1, h2⟩ := List.mem_flatten.mp h'
  rwa [List.eq_of_mem_replicate h1] at h2
theorem sok_of {x : Str} (h : x.length ≤ sizeLine) (hm : ∀ c ∈ x.cps.toList, ∃ z : Str, SOk z ∧ c ∈ z.cps.toList) : SOk x := by
  refine ⟨h, ?_⟩
  unfold PyData.strOk
  rw [← Array.all_toList, List.all_eq_true]
  intro c hc
  obtain ⟨z, hz, h2⟩ := hm c hc
  have h3 := hz.2
  unfold PyData.strOk at h3
  rw [← Array.all_toList, List.all_eq_true] at h3
  exact h3 c h2
theorem op_mulS {X : Cx} : OpR X (binaryOp .Mult) (fun x y H Q => ∃ i n, x = .str i ∧ y = .int n ∧ -(2 ^ 62) ≤ n ∧ n ≤ 1000000 ∧ i.length ≤ 10 ∧ Q (.str (mulS i n)) H) := by
  intro pins s σ H x y v u Q I rx ry h
  obtain ⟨i, n, rfl, rfl, h1, h2, h3, q⟩ := h
  obtain ⟨t, rfl⟩ := rx
  obtain ⟨t', rfl⟩ := ry
  rw [← mulS_eq] at q
  refine SB.mul ⟨?_, ?_, ?_⟩ (fun t' k => ⟨.str _, H, I.tok _, ⟨_, rfl⟩, q⟩)
  · rw [Bool.or_eq_false_iff]
    exact ⟨decide_eq_false (by omega), decide_eq_false (by omega)⟩
  · intro z _ hh
    have hn : 0 < n := by omega
    have e : (1000000000 : Int) ≤ (2 ^ 63 - 1) / n := by
      refine (Int.le_ediv_iff_mul_le hn).mpr ?_
      have : (1000000000 : Int) * n ≤ 1000000000 * 1000000 := Int.mul_le_mul_of_nonneg_left h2 (by decide)
      omega
    omega
  · intro z _
    have e : i.length * n.toNat ≤ 10 * 1000000 := Nat.mul_le_mul h3 (by omega)
    unfold Builtin.Str.tooLong
    simp only [decide_eq_false_iff_not]
    rw [sizeLine_eq]
    omega
def dMul (d e : D) (O : Om) (Q : QX) : Prop := match d, e with
  | .int i, .int j => CMul i j ∧ Q (.int (i * j)) O
  | .str x, .int n => -(2 ^ 62) ≤ n ∧ n ≤ 1000000 ∧ x.length ≤ 10 ∧ Q (.str (mulS x n)) O
  | _, _ => False
theorem o_mulA {X : Cx} : BO X .Mult dMul := ⟨_, OpR.or op_mul op_mulS, fun al H O x y d e Q R rel rx ry h hq => by
  cases d <;> cases e <;> first | exact (show False from h).elim | skip
  · cases rx; cases ry
    exact .inl ⟨_, _, rfl, rfl, h.1, hq _ _ _ _ _ (Stp.refl _ _) rel (.int _) h.2⟩
  · rename_i z n
    obtain ⟨h1, h2, h3, h4⟩ := h
    cases rx with
    | str _ hx =>
      cases ry
      refine .inr ⟨_, _, rfl, rfl, h1, h2, h3, hq _ _ _ _ _ (Stp.refl _ _) rel (.str _ (sok_of ?_ fun c hc => ⟨z, hx, mulS_mem hc⟩)) h4⟩
      rw [mulS_len]
      have e : z.length * n.toNat ≤ 10 * 1000000 := Nat.mul_le_mul h3 (by omega)
      rw [sizeLine_eq]; omega⟩
def sIdx (a b : Str) : Option Nat := (Builtin.Str.occurrences a b 0 a.length 1).head?
def dSIndex (d : D) (ds : List D) (O : Om) (Q : QX) : Prop := match d, ds with
  | .str a, [.str b] => optK (sIdx a b) fun i => Q (.int (i : Nat)) O
  | _, _ => False
theorem m_sindex {X : Cx} : MO X "str.index" dSIndex := ⟨_, mt_sindex, fun al H O x d xs ds Q R rel rx r h hq => by
  match d, ds, h with
  | .str a, [.str b], h =>
    obtain ⟨i, e, q⟩ := optK.ex h
    obtain ⟨v, rfl, rv⟩ := r.one
    cases rx; cases rv
    unfold sIdx at e
    cases ho : Builtin.Str.occurrences a b 0 a.length 1 with
    | nil => rw [ho] at e; cases e
    | cons j rest =>
      rw [ho] at e; cases e
      exact ⟨a, b, _, rest, rfl, rfl, ho, hq _ _ _ _ _ (Stp.refl _ _) rel (.int _) q⟩⟩
def dIntOf2 (ds : List D) (O : Om) (Q : QX) : Prop := match ds with
  | [.int i] => Q (.int i) O
  | [.bl b] => Q (.int (if b then 1 else 0)) O
  | [.str x] => x.length ≤ 640 ∧ optK (PySem.intText? x) fun i => Q (.int i) O
  | _ => False
theorem CallR.or {X : Cx} {f : Value} {r r' : List V → Hp → VK → Prop} (h : CallR X f r) (h' : CallR X f r') : CallR X f (fun x H Q => r x H Q ∨ r' x H Q) := by
  intro pins s σ H xs us Q I rx q
  rcases q with q | q
  · exact h pins s σ H xs us Q I rx q
  · exact h' pins s σ H xs us Q I rx q
theorem f_intA {X : Cx} : FO X (.type "int") dIntOf2 := ⟨_, CallR.or call_int1 call_int_str, fun al H O xs ds Q R rel r h hq => by
  match ds, h with
  | [.int i], h => obtain ⟨v, rfl, rv⟩ := r.one; cases rv; exact .inl (.inl ⟨i, rfl, hq _ _ _ _ _ (Stp.refl _ _) rel (.int _) h⟩)
  | [.bl b], h => obtain ⟨v, rfl, rv⟩ := r.one; cases rv; exact .inl (.inr ⟨b, rfl, hq _ _ _ _ _ (Stp.refl _ _) rel (.int _) h⟩)
  | [.str x], h =>
    obtain ⟨h1, h⟩ := h
    obtain ⟨i, e, q⟩ := optK.ex h
    obtain ⟨v, rfl, rv⟩ := r.one
    cases rv
    exact .inr ⟨x, i, rfl, e, h1, hq _ _ _ _ _ (Stp.refl _ _) rel (.int _) q⟩⟩
/-! ### tests split -/
theorem xite_dec {p : Prop} [Decidable p] {P Q : Prop} (h1 : p → P) (h2 : ¬ p → Q) : xite (decide p) P Q := xite_by (fun h => h1 (of_decide_eq_true h)) (fun h => h2 (of_decide_eq_false h))
theorem xite_int {i j : Int} {P Q : Prop} (h1 : i = j → P) (h2 : ¬ i = j → Q) : xite (D.eq (.int i) (.int j)) P Q := xite_by (fun h => h1 (by simpa [D.eq] using h)) (fun h => h2 (by simpa [D.eq] using h))
theorem xite_str {i j : Str} {P Q : Prop} (h1 : i = j → P) (h2 : ¬ i = j → Q) : xite (D.eq (.str i) (.str j)) P Q := xite_by (fun h => h1 (by simpa [D.eq] using h)) (fun h => h2 (by simpa [D.eq] using h))
theorem xite_not {b : Bool} {P Q : Prop} (h : xite b Q P) : xite (!b) P Q := by cases b <;> exact h
theorem xite_ff {b : Bool} {P Q : Prop} (h : xite b P Q) : xite (false.xor b) P Q := by cases b <;> exact h
theorem xite_tt {b : Bool} {P Q : Prop} (h : xite b Q P) : xite (true.xor b) P Q := by cases b <;> exact h
theorem ok_str {n : Nat} {O : Om} {x : Str} : D.ok n (snap O (.str x)) = true := by cases n <;> rfl
theorem ok_int {n : Nat} {O : Om} {x : Int} : D.ok n (snap O (.int x)) = true := by cases n <;> rfl
theorem cutS_le {z : Str} {lo hi : Option Int} : (cutS z lo hi).length ≤ z.length := by
  unfold cutS
  show (List.toArray _).size ≤ _
  rw [List.size_toArray, List.length_take, List.length_drop, Array.length_toList]
  have : z.length = z.cps.size := rfl
  omega
end Px

namespace Px
open PySem PySem.Spec PyProof.Rows L2
/-! ### tables on data -/
def keyD : D → Option Key
  | .int i => some (.inl i)
  | .str s => some (.inr s)
  | _ => none
section
variable {κ β : Type} [DecidableEq κ]
def valD (kvs : List (κ × β)) (k : κ) : Option β := (kvs.find? fun kv => decide (kv.1 = k)).map (·.2)
def putD (kvs : List (κ × β)) (k : κ) (v : β) : List (κ × β) :=
  if (kvs.any fun kv => decide (kv.1 = k)) = true then kvs.map (fun kv => if kv.1 = k then (kv.1, v) else kv) else kvs ++ [(k, v)]
def dropD (kvs : List (κ × β)) (k : κ) : List (κ × β) := kvs.filter fun kv => decide (kv.1 ≠ k)
theorem valD_nil {k : κ} : valD ([] : List (κ × β)) k = none := rfl
theorem valD_pos {p : κ × β} {r : List (κ × β)} {k : κ} (e : p.1 = k) : valD (p :: r) k = some p.2 := by simp [valD, List.find?_cons, e]
theorem valD_neg {p : κ × β} {r : List (κ × β)} {k : κ} (e : ¬ p.1 = k) : valD (p :: r) k = valD r k := by simp [valD, List.find?_cons, e]
theorem valD_any (k : κ) : ∀ kvs : List (κ × β), (kvs.any fun kv => decide (kv.1 = k)) = (valD kvs k).isSome
  | [] => rfl
  | p :: r => by
    rw [List.any_cons]
    by_cases e : p.1 = k
    · simp only [valD_pos e, decide_eq_true e, Bool.true_or, Option.isSome_some]
    · rw [valD_neg e, decide_eq_false e, Bool.false_or]; exact valD_any k r
end
section
variable {K : PySem.W.Frag} {al : AL} {H : Hp} {κ : Type} [DecidableEq κ]
theorem RpK.consI {p : κ × V} {vs : List (κ × V)} {ds : List (κ × D)} (r : RpK K al H (p :: vs) ds) : ∃ q ds', ds = q :: ds' ∧ p.1 = q.1 ∧ Rp K al H p.2 q.2 ∧ RpK K al H vs ds' := by
  obtain ⟨e, h⟩ := r
  cases ds with
  | nil => cases e
  | cons q ds =>
    simp only [List.map_cons, List.cons.injEq] at e
    rw [List.map_cons, List.map_cons] at h
    cases h with
    | cons h1 h2 => exact ⟨q, ds, rfl, e.1, h1, e.2, h2⟩
theorem RpK.cons {p : κ × V} {q : κ × D} {vs : List (κ × V)} {ds : List (κ × D)} (e : p.1 = q.1) (h : Rp K al H p.2 q.2) (r : RpK K al H vs ds) : RpK K al H (p :: vs) (q :: ds) :=
  ⟨by rw [List.map_cons, List.map_cons, e, r.1], .cons h r.2⟩
theorem RpK.nil' : RpK K al H ([] : List (κ × V)) [] := ⟨rfl, .nil⟩
theorem RpK.nilI {ds : List (κ × D)} (r : RpK K al H ([] : List (κ × V)) ds) : ds = [] := by
  cases ds with
  | nil => rfl
  | cons q ds => cases r.1
theorem RpK.some {k : κ} : ∀ {vs : List (κ × V)} {ds : List (κ × D)} {d : D}, RpK K al H vs ds → valD ds k = some d → ∃ v, valV vs k = some v ∧ Rp K al H v d
  | [], ds, d, r, h => by rw [r.nilI] at h; cases h
  | p :: vs, ds, d, r, h => by
    obtain ⟨q, ds', rfl, e, h1, h2⟩ := r.consI
    by_cases e2 : q.1 = k
    · rw [valD_pos e2] at h; cases h
      exact ⟨_, valV_pos (e.trans e2), h1⟩
    · rw [valD_neg e2] at h
      obtain ⟨v, h3, h4⟩ := RpK.some h2 h
      exact ⟨v, by rw [valV_neg (fun z => e2 (e ▸ z))]; exact h3, h4⟩
theorem RpK.none {k : κ} : ∀ {vs : List (κ × V)} {ds : List (κ × D)}, RpK K al H vs ds → valD ds k = none → valV vs k = none
  | [], ds, r, h => rfl
  | p :: vs, ds, r, h => by
    obtain ⟨q, ds', rfl, e, h1, h2⟩ := r.consI
    by_cases e2 : q.1 = k
    · rw [valD_pos e2] at h; cases h
    · rw [valD_neg e2] at h
      rw [valV_neg (fun z => e2 (e ▸ z))]; exact RpK.none h2 h
theorem RpK.any {k : κ} {vs : List (κ × V)} {ds : List (κ × D)} (r : RpK K al H vs ds) : (vs.any fun kv => decide (kv.1 = k)) = ds.any fun kv => decide (kv.1 = k) := by
  rw [valV_any, valD_any]
  cases e : valD ds k with
  | none => rw [RpK.none r e]; rfl
  | some d => obtain ⟨v, h, _⟩ := RpK.some r e; rw [h]; rfl
theorem RpK.map {k : κ} {v : V} {d : D} (h : Rp K al H v d) : ∀ {vs : List (κ × V)} {ds : List (κ × D)}, RpK K al H vs ds → RpK K al H (vs.map fun kv => if kv.1 = k then (kv.1, v) else kv) (ds.map fun kv => if kv.1 = k then (kv.1, d) else kv)
  | [], ds, r => by rw [r.nilI]; exact .nil'
  | p :: vs, ds, r => by
    obtain ⟨q, ds', rfl, e, h1, h2⟩ := r.consI
    rw [List.map_cons, List.map_cons]
    by_cases e2 : q.1 = k
    · rw [if_pos e2, if_pos (e.trans e2)]; exact .cons e h (RpK.map h h2)
    · rw [if_neg e2, if_neg (fun z => e2 (e ▸ z))]; exact .cons e h1 (RpK.map h h2)
theorem RpK.append {vs ws : List (κ × V)} {ds es : List (κ × D)} (r : RpK K al H vs ds) (q : RpK K al H ws es) : RpK K al H (vs ++ ws) (ds ++ es) :=
  ⟨by rw [List.map_append, List.map_append, r.1, q.1], by rw [List.map_append, List.map_append]; exact RpA.append r.2 q.2⟩
theorem RpK.put {k : κ} {v : V} {d : D} (h : Rp K al H v d) {vs : List (κ × V)} {ds : List (κ × D)} (r : RpK K al H vs ds) : RpK K al H (putK vs k v) (putD ds k d) := by
  unfold putK putD
  rw [r.any]
  split
  · exact r.map h
  · exact r.append (.cons rfl h .nil')
theorem RpK.drop {k : κ} : ∀ {vs : List (κ × V)} {ds : List (κ × D)}, RpK K al H vs ds → RpK K al H (dropK vs k) (dropD ds k)
  | [], ds, r => by rw [r.nilI]; exact .nil'
  | p :: vs, ds, r => by
    obtain ⟨q, ds', rfl, e, h1, h2⟩ := r.consI
    have ih := RpK.drop (k := k) h2
    unfold dropK dropD at *
    rw [List.filter_cons, List.filter_cons, e]
    split
    · exact .cons e h1 ih
    · exact ih
theorem RpK.len {vs : List (κ × V)} {ds : List (κ × D)} (r : RpK K al H vs ds) : vs.length = ds.length := by
  have := congrArg List.length r.1
  simpa using this
theorem key_rp {v : V} {d : D} {k : Key} (r : Rp K al H v d) (h : keyD d = some k) : v = kV k := by
  cases d with
  | int i => cases h; cases r; rfl
  | str i => cases h; cases r; rfl
  | _ => cases h
end
def dKK (c : Cell) (Q : List (Key × D) → Prop) : Prop := match c with
  | .dK kvs => Q kvs
  | _ => False
theorem dKK.ex {o : Option Cell} {Q : List (Key × D) → Prop} (h : optK o fun c => dKK c Q) : ∃ ds, o = some (.dK ds) ∧ Q ds := by
  obtain ⟨c, e, h⟩ := h.ex
  cases c with
  | dK ds => exact ⟨ds, e, h⟩
  | _ => exact (show False from h).elim
theorem Rp.ownD {K : PySem.W.Frag} {al : AL} {H : Hp} {O : Om} {v : V} {k : Nat} {ds : List (Key × D)} (rel : Rel K al H O) (r : Rp K al H v (.own k)) (hc : O[k]? = some (.dK ds)) : ∃ a xs, v = .ref a ∧ al.l[k]? = some (some (a, none)) ∧ H a = some (.dK xs) ∧ RpK K al H xs ds := by
  obtain ⟨o, e, q, hv⟩ := r.ownI rel hc
  match o, q with
  | some (a, none), q =>
    obtain ⟨xs, h1, h2⟩ := q
    exact ⟨a, xs, hv _ rfl, e, h1, h2⟩
theorem Rp.ownZ {K : PySem.W.Frag} {al : AL} {H : Hp} {O : Om} {v : V} {k : Nat} {oo : Obj} {xs : List (Key × V)} {ds : List (Key × D)} (rel : Rel K al H O) (r : Rp K al H v (.own k)) (hc : O[k]? = some (.fzK oo xs ds)) : ∃ a, v = .ref a ∧ al.l[k]? = some (some (a, none)) ∧ H a = some (.frz oo (.dK xs)) ∧ RpK K al H xs ds := by
  obtain ⟨o, e, q, hv⟩ := r.ownI rel hc
  match o, q with
  | some (a, none), q => exact ⟨a, hv _ rfl, e, q.1, q.2⟩
/-- the table at d -/
def dTab (d : D) (O : Om) (Q : List (Key × D) → Prop) : Prop := ownK d fun k => optK O[k]? fun c => dKK c Q
theorem dTab.ex {d : D} {O : Om} {Q : List (Key × D) → Prop} (h : dTab d O Q) : ∃ k ds, d = .own k ∧ O[k]? = some (.dK ds) ∧ Q ds := by
  obtain ⟨k, rfl, h⟩ := ownK.ex h
  obtain ⟨ds, e, h⟩ := dKK.ex h
  exact ⟨k, ds, rfl, e, h⟩
/-! ### get, [], in -/
def dDGet (d : D) (ds : List D) (O : Om) (Q : QX) : Prop := match ds with
  | [k] => dTab d O fun kvs => optK (keyD k) fun key => Q ((valD kvs key).getD .non) O
  | [k, x] => dTab d O fun kvs => optK (keyD k) fun key => Q ((valD kvs key).getD x) O
  | _ => False
section
variable {X : Cx}
def rDGet : V → List V → Hp → VK → Prop := fun x xs H Q => (∃ a y o, x = .ref a ∧ xs = [y] ∧ DGet H a y o ∧ Q (o.getD .non) H) ∨ ∃ a y z o, x = .ref a ∧ xs = [y, z] ∧ DGet H a y o ∧ Q (o.getD z) H
theorem mt_dget (hu : X.A.units + 1 < cLine) : MtR X "dict.get" rDGet := by
  intro pins s σ H x xs v us Q I rx rs h
  rcases h with ⟨a, y, o, rfl, rfl, g, q⟩ | ⟨a, y, z, o, rfl, rfl, g, q⟩
  · obtain rfl : v = Value.ref a := rx
    obtain ⟨u, rfl, ru⟩ := vals1 rs
    exact d_get1 hu I g ru fun w' s3 I3 rw' => ⟨_, H, I3, rw', q⟩
  · obtain rfl : v = Value.ref a := rx
    cases rs with
    | cons r1 rs => cases rs with
      | cons r2 rs =>
        cases rs
        exact d_get2 hu I g r1 r2 fun w' s3 I3 rw' => ⟨_, H, I3, rw', q⟩
theorem m_dget (hr : Un0 X.A) : MO X "dict.get" dDGet := ⟨_, mt_dget (by have := hr.le; omega), fun al H O x d xs ds Q R rel rx r h hq => by
  match ds, h with
  | [k], h =>
    obtain ⟨j, kvs, rfl, e, h⟩ := dTab.ex h
    obtain ⟨key, ek, h⟩ := h.ex
    obtain ⟨a, vs, rfl, e1, e2, e3⟩ := rx.ownD rel e
    obtain ⟨v, rfl, rv⟩ := r.one
    refine .inl ⟨a, v, valV vs key, rfl, rfl, by rw [key_rp rv ek]; exact .k e2, ?_⟩
    cases e4 : valD kvs key with
    | none => rw [e4] at h; rw [e3.none e4]; exact hq _ _ _ _ _ (Stp.refl _ _) rel .non h
    | some d' => rw [e4] at h; obtain ⟨w', e5, r5⟩ := e3.some e4; rw [e5]; exact hq _ _ _ _ _ (Stp.refl _ _) rel r5 h
  | [k, z], h =>
    obtain ⟨j, kvs, rfl, e, h⟩ := dTab.ex h
    obtain ⟨key, ek, h⟩ := h.ex
    obtain ⟨a, vs, rfl, e1, e2, e3⟩ := rx.ownD rel e
    obtain ⟨v, w', rfl, rv, rw'⟩ := r.two
    refine .inr ⟨a, v, w', valV vs key, rfl, rfl, by rw [key_rp rv ek]; exact .k e2, ?_⟩
    cases e4 : valD kvs key with
    | none => rw [e4] at h; rw [e3.none e4]; exact hq _ _ _ _ _ (Stp.refl _ _) rel rw' h
    | some d' => rw [e4] at h; obtain ⟨w', e5, r5⟩ := e3.some e4; rw [e5]; exact hq _ _ _ _ _ (Stp.refl _ _) rel r5 h⟩
def rIxDi : R2 := fun x y H Q => ∃ a v, x = .ref a ∧ DGet H a y (some v) ∧ Q v H
theorem dget_type {pins : List (Addr × Obj)} {σ : L2.St} {H : Hp} {s : Shared} {a : Addr} {y : V} {o : Option V} (I : Inv X pins σ H s) (g : DGet H a y o) : s.TypeIs (.ref a) "dict" := dict_typeIs I g
theorem ix_dict (hu : X.A.units + 1 < cLine) : IxR X rIxDi := by
  intro value slice pins s σ H x y v u Q I rx ry h hs
  obtain ⟨a, r, rfl, g, q⟩ := h
  obtain rfl : v = Value.ref a := rx
  exact tail_any (dict_typeIs I g) slot_dict_getitem.lookup (d_getItem hu I g ry fun w' s' I' rw' => ⟨r, H, I', rw', q⟩) hs
def IxR.or {r r' : R2} (h : IxR X r) (h' : IxR X r') : IxR X (fun x y H Q => r x y H Q ∨ r' x y H Q) := by
  intro value slice pins s σ H x y v u Q I rx ry q hs
  rcases q with q | q
  · exact h value slice pins s σ H x y v u Q I rx ry q hs
  · exact h' value slice pins s σ H x y v u Q I rx ry q hs
def dIxA (d e : D) (O : Om) (Q : QX) : Prop := match d with
  | .str _ => dIx d e O Q
  | .lst _ => dIx d e O Q
  | .tup _ => dIx d e O Q
  | .own k => optK O[k]? fun c => match c with
    | .lst ds => match e with
      | .int i => optK (atI ds i) fun x => Q x O
      | _ => False
    | .dK kvs => optK (keyD e) fun key => optK (valD kvs key) fun x => Q x O
    | .fzK _ _ kvs => optK (keyD e) fun key => optK (valD kvs key) fun x => Q x O
    | _ => False
  | _ => False
theorem px_ixA {W : WX} {a b : Expr} {pos : Pos} {xa xb : TX} (hr : Un0 X.A) (ha : PX X W a xa) (hb : PX X W b xb) (hs : PlainIx b := by exact fun _ _ => rfl) : PX X W (.Subscript a b pos) (xOp dIxA xa xb) :=
  let ⟨_, p, q⟩ := ha; let ⟨_, p2, q2⟩ := hb; ⟨_, pe_ix (IxR.or ix_seq (ix_dict (by have := hr.le; omega))) p p2 hs, rd_op (fun al H O x y d e Q R rel rx ry h hq => by
    cases d with
    | str z => exact .inl (rd_ix al H O x y _ e Q R rel rx ry h hq)
    | lst z => exact .inl (rd_ix al H O x y _ e Q R rel rx ry h hq)
    | tup z => exact .inl (rd_ix al H O x y _ e Q R rel rx ry h hq)
    | own k =>
      obtain ⟨c, ec, h⟩ := optK.ex h
      cases c with
      | lst ds =>
        cases e with
        | int i =>
          refine .inl (rd_ix al H O x y (.own k) (.int i) Q R rel rx ry ?_ hq)
          show optK (seqD O (.own k)) _
          have e1 : seqD O (.own k) = some ds := by
            show (match O[k]? with | some (.lst ds) => some ds | _ => none) = some ds
            rw [ec]
          rw [e1]
          exact h
        | _ => exact (show False from h).elim
      | dK kvs =>
        obtain ⟨key, ek, h⟩ := optK.ex h
        obtain ⟨z, ez, h⟩ := optK.ex h
        obtain ⟨a, vs, rfl, e1, e2, e3⟩ := rx.ownD rel ec
        obtain ⟨w', e5, r5⟩ := e3.some ez
        refine .inr ⟨a, w', rfl, by rw [key_rp ry ek, ← e5]; exact .k e2, hq _ _ _ _ _ (Stp.refl _ _) rel r5 h⟩
      | fzK oo vs kvs =>
        obtain ⟨key, ek, h⟩ := optK.ex h
        obtain ⟨z, ez, h⟩ := optK.ex h
        obtain ⟨a, rfl, _, e2, e3⟩ := rx.ownZ rel ec
        obtain ⟨w', e5, r5⟩ := e3.some ez
        refine .inr ⟨a, w', rfl, .inl ⟨vs, key, .inr ⟨oo, e2⟩, key_rp ry ek, e5.symm⟩, hq _ _ _ _ _ (Stp.refl _ _) rel r5 h⟩
      | _ => exact (show False from h).elim
    | _ => exact (show False from h).elim) q q2⟩
def rInDi (neg : Bool) : R2 := fun x y H Q => ∃ a o, y = .ref a ∧ DGet H a x o ∧ Q (.bl (neg.xor o.isSome)) H
theorem op_inDi (hu : X.A.units + 1 < cLine) : OpR X (compareOp .In) (rInDi false) := by
  intro pins s σ H x y v u Q I rx ry h
  obtain ⟨a, o, rfl, g, q⟩ := h
  obtain rfl : u = Value.ref a := ry
  rw [Bool.false_xor] at q
  exact d_in hu I g rx fun s3 I3 => ⟨.bl o.isSome, H, I3, rfl, q⟩
theorem op_notInDi (hu : X.A.units + 1 < cLine) : OpR X (compareOp .NotIn) (rInDi true) := by
  intro pins s σ H x y v u Q I rx ry h
  obtain ⟨a, o, rfl, g, q⟩ := h
  obtain rfl : u = Value.ref a := ry
  rw [Bool.true_xor] at q
  exact d_notIn hu I g rx fun s3 I3 => ⟨.bl (!o.isSome), H, I3, rfl, q⟩
def dInA (neg : Bool) (d e : D) (O : Om) (Q : QX) : Prop := match e with
  | .own k => optK O[k]? fun c => match c with
    | .lst ds => D.ok 19 d = true ∧ D.oks 19 ds = true ∧ Q (.bl (neg.xor (ds.any fun z => D.eq z d))) O
    | .dK kvs => optK (keyD d) fun key => Q (.bl (neg.xor (valD kvs key).isSome)) O
    | .fzK _ _ kvs => optK (keyD d) fun key => Q (.bl (neg.xor (valD kvs key).isSome)) O
    | _ => False
  | e => dIn neg d e O Q
theorem rd_inA {K : PySem.W.Frag} {neg : Bool} {r : R2} (h0 : RdO2 K r (dIn neg)) : RdO2 K (fun x y H Q => r x y H Q ∨ rInDi neg x y H Q) (dInA neg) := by
  intro al H O x y d e Q R rel rx ry h hq
  cases e with
  | own k =>
    obtain ⟨c, ec, h⟩ := optK.ex h
    cases c with
    | lst ds =>
      refine .inl (h0 al H O x y d (.own k) Q R rel rx ry ?_ hq)
      show optK (lstD O (.own k)) _
      have e1 : lstD O (.own k) = some ds := by
        show (match O[k]? with | some (.lst ds) => some ds | _ => none) = some ds
        rw [ec]
      rw [e1]
      exact h
    | dK kvs =>
      obtain ⟨key, ek, h⟩ := optK.ex h
      obtain ⟨a, vs, rfl, e1, e2, e3⟩ := ry.ownD rel ec
      refine .inr ⟨a, valV vs key, rfl, by rw [key_rp rx ek]; exact .k e2, ?_⟩
      have e4 : (valV vs key).isSome = (valD kvs key).isSome := by rw [← valV_any, ← valD_any]; exact e3.any
      rw [e4]
      exact hq _ _ _ _ _ (Stp.refl _ _) rel (.bl _) h
    | fzK oo vs kvs =>
      obtain ⟨key, ek, h⟩ := optK.ex h
      obtain ⟨a, rfl, _, e2, e3⟩ := ry.ownZ rel ec
      refine .inr ⟨a, valV vs key, rfl, .inl ⟨vs, key, .inr ⟨oo, e2⟩, key_rp rx ek, rfl⟩, ?_⟩
      have e4 : (valV vs key).isSome = (valD kvs key).isSome := by rw [← valV_any, ← valD_any]; exact e3.any
      rw [e4]
      exact hq _ _ _ _ _ (Stp.refl _ _) rel (.bl _) h
    | _ => exact (show False from h).elim
  | _ => exact .inl (h0 al H O x y d _ Q R rel rx ry h hq)
theorem c_inA (hr : Un0 X.A) : CO X .In (dInA false) := let ⟨_, h1, h2⟩ := c_in hr; ⟨_, OpR.or h1 (op_inDi (by have := hr.le; omega)), rd_inA h2⟩
theorem c_notInA (hr : Un0 X.A) : CO X .NotIn (dInA true) := let ⟨_, h1, h2⟩ := c_notIn hr; ⟨_, OpR.or h1 (op_notInDi (by have := hr.le; omega)), rd_inA h2⟩
/-! ### d[k] = v -/
def dSetA (o i d : D) (O : Om) (Q : Om → Prop) : Prop := ownK o fun k => optK O[k]? fun c => match c with
  | .lst ds => match i with
    | .int n => optK (ixN ds.length n) fun j => Q (O.set k (.lst (ds.set j d)))
    | _ => False
  | .dK kvs => optK (keyD i) fun key => kvs.length ≤ 1000000 ∧ Q (O.set k (.dK (putD kvs key d)))
  | _ => False
def xgSubA (a b : TX) : TGX := fun d G O Q E => a G O (fun o O1 => b G O1 (fun i O2 => dSetA o i d O2 fun O3 => Q G O3) E) E
theorem PSet.or {r r' : TSet} (h : PSet X r) (h' : PSet X r') : PSet X (fun o i v H Q => r o i v H Q ∨ r' o i v H Q) := by
  intro pins s σ H o i v ov iv u Q I ro ri rv q
  rcases q with q | q
  · exact h pins s σ H o i v ov iv u Q I ro ri rv q
  · exact h' pins s σ H o i v ov iv u Q I ro ri rv q
theorem rd_gSubA {K : PySem.W.Frag} {W : WX} {ta tb : TE} {a b : TX} (ha : RdE K W ta a) (hb : RdE K W tb b) : RdG K W [] (gSub ta tb (fun o i v H Q => rSetL o i v H Q ∨ rSetD o i v H Q)) (xgSubA a b) := by
  intro al H σ G O v d Q E R rel env r h hq he
  refine ha al H σ G O _ E _ rel env h (fun al1 H1 O1 x o s1 rel1 r1 q1 => ?_) he
  refine hb al1 H1 σ G O1 _ E _ rel1 (env.mono s1) q1 (fun al2 H2 O2 y i s2 rel2 r2 q2 => ?_) (fun _ _ _ _ _ _ s' => he _ _ _ _ _ _ (s1.trans s'))
  have s12 := s1.trans s2
  obtain ⟨k, rfl, q2⟩ := ownK.ex q2
  obtain ⟨c, ec, q2⟩ := optK.ex q2
  cases c with
  | lst ds =>
    cases i with
    | int n =>
      cases r2
      obtain ⟨j, e2, q2⟩ := optK.ex q2
      obtain ⟨p, xs, rfl, e3, e4, e5, e6⟩ := (r1.mono s2).ownL rel2 ec
      have s : Stp al2 H2 al2 (upd H2 p (.lst (xs.set j v))) := stp_set rel2.nd e3
      refine .inl ⟨p, xs, n, j, rfl, rfl, e4, by rw [e6.length]; exact e2, hq _ _ _ _ _ (s12.trans s) (rel2.set (c := .lst (ds.set j d)) e3 ⟨xs.set j v, upd_same, by rw [List.length_set]; exact e5, ((e6.set (r.mono s12) j)).mono s⟩) (env.mono (s12.trans s)) (fun _ _ => rfl) q2⟩
    | _ => exact (show False from q2).elim
  | dK kvs =>
    obtain ⟨key, ek, q2⟩ := optK.ex q2
    obtain ⟨hl, q2⟩ := q2
    obtain ⟨p, xs, rfl, e3, e4, e5⟩ := (r1.mono s2).ownD rel2 ec
    have s : Stp al2 H2 al2 (upd H2 p (.dK (putK xs key v))) := stp_set rel2.nd e3
    have e6 := (e5.put (k := key) (r.mono s12)).mono0 s.toStp0
    refine .inr ⟨p, _, rfl, by rw [key_rp r2 ek]; exact .k e4 (by rw [e5.len, sizeLine_eq]; omega), hq _ _ _ _ _ (s12.trans s) (rel2.set (c := .dK (putD kvs key d)) e3 ⟨_, upd_same, e6⟩) (env.mono (s12.trans s)) (fun _ _ => rfl) q2⟩
  | _ => exact (show False from q2).elim
theorem pgx_subA {W : WX} {o i : Expr} {a b : TX} {pos : Pos} (hr : Un0 X.A) (ho : PX X W o a) (hi : PX X W i b)
    (ha : ∀ v, assign (.Subscript o i pos) X.env v = (do
      let ov ← holding [v] (eval o X.env)
      let iv ← holding [v, ov] (eval i X.env)
      standAt pos
      holding [v, ov, iv] (setItem ov iv v)
      release [v, ov, iv] []) := by intro _; rfl) : PGX X W (.Subscript o i pos) [] (xgSubA a b) := let ⟨_, p, q⟩ := ho; let ⟨_, p2, q2⟩ := hi; ⟨_, pg_sub p p2 (PSet.or set_list (set_dict (by have := hr.le; omega))) ha, rd_gSubA q q2⟩
end
end Px

namespace Px
open PySem PySem.Spec PyProof.Rows L2
/-! ### pop of a dict, len, a display -/
def dDPop (d : D) (ds : List D) (O : Om) (Q : QX) : Prop := match ds with
  | [k] => ownK d fun j => optK O[j]? fun c => dKK c fun kvs => optK (keyD k) fun key => optK (valD kvs key) fun x => Q x (O.set j (.dK (dropD kvs key)))
  | [k, z] => ownK d fun j => optK O[j]? fun c => dKK c fun kvs => optK (keyD k) fun key => match valD kvs key with
    | some x => Q x (O.set j (.dK (dropD kvs key)))
    | none => Q z O
  | _ => False
section
variable {X : Cx}
def rDPop : V → List V → Hp → VK → Prop := fun x xs H Q => (∃ a kvs k v, x = .ref a ∧ xs = [kV k] ∧ H a = some (.dK kvs) ∧ valV kvs k = some v ∧ Q v (upd H a (.dK (dropK kvs k)))) ∨
  ∃ a kvs k z, x = .ref a ∧ xs = [kV k, z] ∧ H a = some (.dK kvs) ∧ (∀ v, valV kvs k = some v → Q v (upd H a (.dK (dropK kvs k)))) ∧ (valV kvs k = none → Q z H)
theorem mt_dpop : MtR X "dict.pop" rDPop := by
  intro pins s σ H x xs v us Q I rx rs h
  rcases h with ⟨a, kvs, k, y, rfl, rfl, e, l, q⟩ | ⟨a, kvs, k, z, rfl, rfl, e, q1, q2⟩
  · obtain rfl : v = Value.ref a := rx
    obtain ⟨u, rfl, ru⟩ := vals1 rs
    exact d_pop I e ru l (.inl rfl) fun w' s3 I3 rw' => ⟨y, _, I3, rw', q⟩
  · obtain rfl : v = Value.ref a := rx
    cases rs with
    | cons r1 rs => cases rs with
      | cons r2 rs =>
        cases rs
        cases l : valV kvs k with
        | some y => exact d_pop I e r1 l (.inr ⟨_, rfl⟩) fun w' s3 I3 rw' => ⟨y, _, I3, rw', q1 y l⟩
        | none => exact d_popD I e r1 l fun s3 I3 => ⟨z, H, I3, r2, q2 l⟩
theorem m_dpop : MO X "dict.pop" dDPop := ⟨_, mt_dpop, fun al H O x d xs ds Q R rel rx r h hq => by
  match ds, h with
  | [k], h =>
    obtain ⟨j, rfl, h⟩ := ownK.ex h
    obtain ⟨kvs, e, h⟩ := dKK.ex h
    obtain ⟨key, ek, h⟩ := optK.ex h
    obtain ⟨y, ey, h⟩ := optK.ex h
    obtain ⟨a, vs, rfl, e1, e2, e3⟩ := rx.ownD rel e
    obtain ⟨v, rfl, rv⟩ := r.one
    obtain ⟨w', e5, r5⟩ := e3.some ey
    have s : Stp al H al (upd H a (.dK (dropK vs key))) := stp_set rel.nd e1
    exact .inl ⟨a, vs, key, w', rfl, by rw [key_rp rv ek], e2, e5, hq _ _ _ _ _ s (rel.set (c := .dK (dropD kvs key)) e1 ⟨_, upd_same, (e3.drop).mono0 s.toStp0⟩) (r5.mono s) h⟩
  | [k, z], h =>
    obtain ⟨j, rfl, h⟩ := ownK.ex h
    obtain ⟨kvs, e, h⟩ := dKK.ex h
    obtain ⟨key, ek, h⟩ := optK.ex h
    obtain ⟨a, vs, rfl, e1, e2, e3⟩ := rx.ownD rel e
    obtain ⟨v, w', rfl, rv, rw'⟩ := r.two
    refine .inr ⟨a, vs, key, w', rfl, by rw [key_rp rv ek], e2, fun y ey => ?_, fun ey => ?_⟩
    · cases e4 : valD kvs key with
      | none => rw [e3.none e4] at ey; cases ey
      | some d' =>
        rw [e4] at h
        obtain ⟨w2, e5, r5⟩ := e3.some e4
        rw [e5] at ey; cases ey
        have s : Stp al H al (upd H a (.dK (dropK vs key))) := stp_set rel.nd e1
        exact hq _ _ _ _ _ s (rel.set (c := .dK (dropD kvs key)) e1 ⟨_, upd_same, (e3.drop).mono0 s.toStp0⟩) (r5.mono s) h
    · cases e4 : valD kvs key with
      | none => rw [e4] at h; exact hq _ _ _ _ _ (Stp.refl _ _) rel rw' h
      | some d' => obtain ⟨w2, e5, r5⟩ := e3.some e4; rw [e5] at ey; cases ey⟩
def dLenA (ds : List D) (O : Om) (Q : QX) : Prop := match ds with
  | [.own k] => optK O[k]? fun c => match c with
    | .lst es => Q (.int (es.length : Nat)) O
    | .dK es => Q (.int (es.length : Nat)) O
    | _ => False
  | [d] => dLen1 d O Q
  | _ => False
theorem f_lenA : FO X (.builtin "len") dLenA := let ⟨_, h1, h2⟩ := f_len (X := X); ⟨_, CallR.or h1 call_lenD, fun al H O xs ds Q R rel r h hq => by
  match ds, h with
  | [.own k], h =>
    obtain ⟨c, ec, h⟩ := optK.ex h
    cases c with
    | lst es =>
      refine .inl (h2 al H O xs [.own k] Q R rel r ?_ hq)
      show optK (seqD O (.own k)) _
      have e1 : seqD O (.own k) = some es := by
        show (match O[k]? with | some (.lst ds) => some ds | _ => none) = some es
        rw [ec]
      rw [e1]
      exact h
    | dK kvs =>
      obtain ⟨v, rfl, rv⟩ := r.one
      obtain ⟨a, vs, rfl, e1, e2, e3⟩ := rv.ownD rel ec
      refine .inr ⟨a, vs, rfl, e2, ?_⟩
      rw [e3.len]
      exact hq _ _ _ _ _ (Stp.refl _ _) rel (.int _) h
    | _ => exact (show False from h).elim
  | [.str x], h => exact .inl (h2 al H O xs _ Q R rel r h hq)
  | [.lst x], h => exact .inl (h2 al H O xs _ Q R rel r h hq)
  | [.tup x], h => exact .inl (h2 al H O xs _ Q R rel r h hq)
  | [.int x], h => exact .inl (h2 al H O xs _ Q R rel r h hq)
  | [.bl x], h => exact .inl (h2 al H O xs _ Q R rel r h hq)
  | [.non], h => exact .inl (h2 al H O xs _ Q R rel r h hq)
  | [.adr a], h => exact .inl (h2 al H O xs _ Q R rel r h hq)⟩
/-! ### a dict's display -/
def mergeD (kvs more : List (Key × D)) : List (Key × D) := more.foldl (fun acc kv => putD acc kv.1 kv.2) kvs
abbrev TPX := Gam → Om → (List (Key × D) → Om → Prop) → EX → Prop
def xpNil : TPX := fun _ O Q _ => Q [] O
def xpCons (a b : TX) (r : TPX) : TPX := fun G O Q E => a G O (fun k O1 => optK (keyD k) fun key => b G O1 (fun d O2 => r G O2 (fun ps O3 => Q ((key, d) :: ps) O3) E) E) E
def xDisp (r : TPX) : TX := fun G O Q E => r G (O ++ [.dK []]) (fun ps O' => O'[O.length]? = some (.dK []) ∧ Q (.own O.length) (O'.set O.length (.dK (mergeD [] ps)))) E
def RdP (K : PySem.W.Frag) (W : WX) (n : Nat) (trs : List (TE × TE)) (t : TPX) : Prop := ∀ (al : AL) (H : Hp) (σ : L2.St) (G : Gam) (O : Om) (Q : List (Key × D) → Om → Prop) (E : EX) (R : List (V × V) → Hp → Prop), Rel K al H O → EnvR K al H σ G → t G O Q E →
  (∀ al' H' O' vs ds, Stp al H al' H' → Rel K al' H' O' → RpK K al' H' vs ds → ds.length = n → Q ds O' → R (vs.map fun kv => (kV kv.1, kv.2)) H') →
  (∀ al' H' O' x cls dd, Stp al H al' H' → Rel K al' H' O' → ExR K al' H' x cls dd → E x O' → W cls dd σ H') → tPairs trs σ H R
structure PPX (X : Cx) (W : WX) (pos : Pos) (ks : List (Option Expr)) (vs : List Expr) (t : TPX) : Prop where
  ex : ∃ trs, PPs X pos ks vs trs ∧ RdP X.K W vs.length trs t
theorem ppx_nil {W : WX} {pos : Pos} : PPX X W pos [] [] xpNil := ⟨_, pps_nil, fun al H σ G O Q E R rel env h hq he => hq _ _ _ [] _ (Stp.refl _ _) rel .nil' rfl h⟩
theorem ppx_cons {W : WX} {pos : Pos} {k v : Expr} {ks : List (Option Expr)} {vs : List Expr} {a b : TX} {r : TPX} (ha : PX X W k a) (hb : PX X W v b) (hr : PPX X W pos ks vs r) : PPX X W pos (some k :: ks) (v :: vs) (xpCons a b r) := by
  obtain ⟨_, p1, q1⟩ := ha
  obtain ⟨_, p2, q2⟩ := hb
  obtain ⟨_, p3, q3⟩ := hr.ex
  refine ⟨_, pps_cons p1 p2 p3, fun al H σ G O Q E R rel env h hq he => ?_⟩
  refine q1 al H σ G O _ E _ rel env h (fun al1 H1 O1 x d s1 rel1 r1 z1 => ?_) he
  obtain ⟨key, ek, z1⟩ := optK.ex z1
  refine q2 al1 H1 σ G O1 _ E _ rel1 (env.mono s1) z1 (fun al2 H2 O2 y d2 s2 rel2 r2 z2 => ?_) (fun _ _ _ _ _ _ s' => he _ _ _ _ _ _ (s1.trans s'))
  have s12 := s1.trans s2
  refine q3 al2 H2 σ G O2 _ E _ rel2 (env.mono s12) z2 (fun al3 H3 O3 ws ds s3 rel3 r3 l3 z3 => ?_) (fun _ _ _ _ _ _ s' => he _ _ _ _ _ _ (s12.trans s'))
  have e := hq _ _ _ ((key, y) :: ws) _ (s12.trans s3) rel3 (.cons rfl (r2.mono s3) r3) (by rw [List.length_cons, l3]; rfl) z3
  rw [key_rp r1 ek]
  exact e
theorem RpK.merge {K : PySem.W.Frag} {al : AL} {H : Hp} : ∀ {more : List (Key × V)} {ms : List (Key × D)} {kvs : List (Key × V)} {ds : List (Key × D)}, RpK K al H more ms → RpK K al H kvs ds → RpK K al H (mergeK kvs more) (mergeD ds ms)
  | [], ms, kvs, ds, r, q => by rw [r.nilI]; exact q
  | p :: more, ms, kvs, ds, r, q => by
    obtain ⟨p', ms', rfl, e, h1, h2⟩ := r.consI
    show RpK K al H (mergeK (putK kvs p.1 p.2) more) (mergeD (putD ds p'.1 p'.2) ms')
    rw [e]
    exact RpK.merge h2 (q.put h1)
theorem px_disp {W : WX} {pos : Pos} {ks : List (Option Expr)} {vs : List Expr} {t : TPX} (h : PPX X W pos ks vs t) (hall : ks.all (·.isSome) = true := by rfl) (hl : ks.length = vs.length := by rfl) (h0 : ks ≠ [] := by exact fun z => nomatch z) (h15 : decide (ks.length ≤ 15) = true := by rfl) :
    PX X W (.Dict ks vs pos) (xDisp t) := by
  obtain ⟨trs, p, q⟩ := h.ex
  refine ⟨_, pe_disp p hall hl h0 (of_decide_eq_true h15), fun al H σ G O Q E R rel env h hq he => ?_⟩
  intro a ha
  have s0 : Stp al H (al.add (some (a, none))) (upd H a (.dK [])) := stp_own rel.live ha
  have rel0 : Rel X.K (al.add (some (a, none))) (upd H a (.dK [])) (O ++ [.dK []]) := rel.own (c := .dK []) ha ⟨[], upd_same, .nil'⟩
  have e0 : (al.add (some (a, none))).l[al.l.length]? = some (some (a, none)) := add_new
  refine q _ _ σ G _ _ E _ rel0 (env.mono s0) h (fun al1 H1 O1 ws ds s1 rel1 r1 l1 z1 => ?_) (fun _ _ _ _ _ _ s' => he _ _ _ _ _ _ (s0.trans s'))
  obtain ⟨z1, z2⟩ := z1
  rw [← rel.len] at z1 z2
  have e1 : al1.l[al.l.length]? = some (some (a, none)) := by
    rcases s1.old _ _ e0 with w | w
    · exact w
    · obtain ⟨o, e2, e3⟩ := rel1.ok _ _ z1
      rw [w] at e2; cases e2
      exact e3.elim
  obtain ⟨o, e2, e3⟩ := rel1.ok _ _ z1
  rw [e1] at e2; cases e2
  obtain ⟨xs, e4, e5⟩ := e3
  have hx : xs = [] := by
    cases xs with
    | nil => rfl
    | cons p xs => obtain ⟨_, _, e, _⟩ := e5.consI; cases e
  subst hx
  refine ⟨e4, ws, rfl, by rw [r1.len, l1, ← hl]; exact of_decide_eq_true h15, ?_⟩
  have s2 : Stp al1 H1 al1 (upd H1 a (.dK (mergeK [] ws))) := stp_set rel1.nd e1
  refine hq _ _ _ _ _ ((s0.trans s1).trans s2) (rel1.set (c := .dK (mergeD [] ds)) e1 ⟨_, upd_same, (r1.merge .nil').mono0 s2.toStp0⟩) (.own e1 fun p e => by cases e; rfl) z2
/-! ### is True -/
def dIsA (neg : Bool) (d e : D) (O : Om) (Q : QX) : Prop := match e with
  | .bl b => match d with
    | .bl a => Q (.bl (neg.xor (a == b))) O
    | _ => False
  | e => dIsN neg d e O Q
theorem c_isA : CO X .Is (dIsA false) := let ⟨_, h1, h2⟩ := c_is (X := X); ⟨_, OpR.or h1 op_isBl, fun al H O x y d e Q R rel rx ry h hq => by
  cases e with
  | bl b =>
    cases d with
    | bl a =>
      cases rx; cases ry
      refine .inr ⟨a, b, rfl, rfl, ?_⟩
      have e : decide (a = b) = (false.xor (a == b)) := by cases a <;> cases b <;> rfl
      rw [e]
      exact hq _ _ _ _ _ (Stp.refl _ _) rel (.bl _) h
    | _ => exact (show False from h).elim
  | _ => exact .inl (h2 al H O x y d _ Q R rel rx ry h hq)⟩
theorem c_isNotA : CO X .IsNot (dIsA true) := let ⟨_, h1, h2⟩ := c_isNot (X := X); ⟨_, OpR.or h1 op_notBl, fun al H O x y d e Q R rel rx ry h hq => by
  cases e with
  | bl b =>
    cases d with
    | bl a =>
      cases rx; cases ry
      refine .inr ⟨a, b, rfl, rfl, ?_⟩
      have e : (!decide (a = b)) = (true.xor (a == b)) := by cases a <;> cases b <;> rfl
      rw [e]
      exact hq _ _ _ _ _ (Stp.refl _ _) rel (.bl _) h
    | _ => exact (show False from h).elim
  | _ => exact .inl (h2 al H O x y d _ Q R rel rx ry h hq)⟩
/-! ### slices of tuples of any kind -/
def dSlA (d : D) (lo hi : Option Int) (O : Om) (Q : QX) : Prop := match d with
  | .str z => Q (.str (cutS z lo hi)) O
  | .tup ds => Q (.tup (cutD ds lo hi)) O
  | d => optK (lstD O d) fun ds => Q (.lst (cutD ds lo hi)) O
def xSlA (a : TX) (l u : TOX) : TX := fun G O Q E => a G O (fun d O1 => l G O1 (fun lo O2 => u G O2 (fun hi O3 => dSlA d lo hi O3 Q) E) E) E
def rSlAny2 (K : PySem.W.Frag) : V → Option Int → Option Int → Hp → VK → Prop := fun x lo hi H Q => rSlAny K x lo hi H Q ∨ rSlA K x lo hi H Q
theorem cutD_whole {ds : List D} {lo hi : Option Int} (h1 : HT.sIx ds.length 0 lo = 0) (h2 : HT.sIx ds.length ds.length hi = ds.length) : cutD ds lo hi = ds := by
  unfold cutD
  rw [h1, h2, List.drop_zero, Nat.sub_zero, List.take_length]
theorem rd_slA {K : PySem.W.Frag} {W : WX} {te : TE} {tl th : TO} {a : TX} {l u : TOX} (ha : RdE K W te a) (hl : RdO K W tl l) (hu : RdO K W th u) : RdE K W (tSl (rSlAny2 K) te tl th) (xSlA a l u) := by
  intro al H σ G O Q E R rel env q hq he
  refine ha al H σ G O _ E _ rel env q (fun al1 H1 O1 v d s1 rel1 r1 q1 => ?_) he
  refine hl al1 H1 σ G O1 _ E _ rel1 (env.mono s1) q1 (fun al2 H2 O2 lo s2 rel2 q2 => ?_) (fun _ _ _ _ _ _ s' => he _ _ _ _ _ _ (s1.trans s'))
  have s12 := s1.trans s2
  refine hu al2 H2 σ G O2 _ E _ rel2 (env.mono s12) q2 (fun al3 H3 O3 hi s3 rel3 q3 => ?_) (fun _ _ _ _ _ _ s' => he _ _ _ _ _ _ (s12.trans s'))
  have s13 := s12.trans s3
  have r3 := r1.mono (s2.trans s3)
  have lstCase : (optK (lstD O3 d) fun ds => Q (.lst (cutD ds lo hi)) O3) → rSlAny2 K v lo hi H3 R := fun h => by
    obtain ⟨ds, e1, e2⟩ := h.ex
    obtain ⟨a, xs, rfl, hs, hr, hz⟩ := lstD_rp rel3 r3 e1
    exact .inl (.inl ⟨a, xs, rfl, hs, fun p hp => hq _ _ _ _ _ (s13.trans (stp_new rel3.live hp)) (rel3.new hp) (new_lst rel3 hp (cut_rp hr) (Nat.le_trans (cutV_length xs lo hi) hz)) e2⟩)
  cases d with
  | str z =>
    cases r3 with
    | str _ hs =>
      refine .inl (.inr (.inr ⟨z, rfl, hs.1, hq _ _ _ _ _ s13 rel3 (.str _ ?_) q3⟩))
      refine sok_sub hs ?_ fun c hc => ?_
      · rw [List.length_take, List.length_drop]; omega
      · exact List.mem_of_mem_drop (List.mem_of_mem_take hc)
  | tup ds =>
    have r3' := r3
    obtain ⟨a, xs, rfl, hs, hr, hz⟩ := r3.tupI
    refine .inr ⟨a, xs, rfl, hs, fun w => ?_, fun w p hp => hq _ _ _ _ _ (s13.trans (stp_new rel3.live hp)) (rel3.new hp) (new_tup rel3 hp (cut_rp hr) (Nat.le_trans (cutV_length xs lo hi) hz)) q3⟩
    rw [hr.length] at w
    have q3' : Q (.tup (cutD ds lo hi)) O3 := q3
    rw [cutD_whole w.1 w.2] at q3'
    exact hq _ _ _ _ _ s13 rel3 r3' q3'
  | _ => exact lstCase q3
theorem px_slA {W : WX} {a : Expr} {lo hi : Option Expr} {pos p2 : Pos} {xa : TX} {l u : TOX} (ha : PX X W a xa) (hl : POX X W lo l) (hu : POX X W hi u) : PX X W (.Subscript a (.Slice lo hi none p2) pos) (xSlA xa l u) := let ⟨_, p, q⟩ := ha; let ⟨_, p1, q1⟩ := hl; let ⟨_, p2, q2⟩ := hu; ⟨_, pe_slice (SlR.or (SlR.or sl_list (SlR.or sl_tup sl_str)) sl_tupA) p p1 p2, rd_slA q q1 q2⟩
/-! ### + of lists, own ones too -/
def dCatA (d e : D) (O : Om) (Q : QX) : Prop := match d with
  | .int _ => dCat d e O Q
  | .str _ => dCat d e O Q
  | .tup _ => dCat d e O Q
  | d => optK (lstD O d) fun xs => optK (lstD O e) fun ys => xs.length + ys.length ≤ 1000000 ∧ Q (.lst (xs ++ ys)) O
theorem o_addA : BO X .Add dCatA := let ⟨_, h1, h2⟩ := o_add (X := X); ⟨_, OpR.or h1 op_catL, fun al H O x y d e Q R rel rx ry h hq => by
  have lstCase : (optK (lstD O d) fun xs => optK (lstD O e) fun ys => xs.length + ys.length ≤ 1000000 ∧ Q (.lst (xs ++ ys)) O) → rCatL X.K x y H R := fun h => by
    obtain ⟨ds, e1, h⟩ := h.ex
    obtain ⟨es, e2, hl, h⟩ := h.ex
    obtain ⟨a, xs, rfl, ha, ra, la⟩ := lstD_rp rel rx e1
    obtain ⟨b, ys, rfl, hb, rb, lb⟩ := lstD_rp rel ry e2
    have hz : xs.length + ys.length ≤ sizeLine := by rw [ra.length, rb.length]; exact Nat.le_trans hl line_ok
    refine ⟨a, b, xs, ys, rfl, rfl, ha, hb, hz, fun p hp => ?_⟩
    exact hq _ _ _ _ _ (stp_new rel.live hp) (rel.new hp) (new_lst rel hp (ra.append rb) (by rw [List.length_append]; exact hz)) h
  cases d with
  | int i => exact .inl (h2 al H O x y _ e Q R rel rx ry h hq)
  | str i => exact .inl (h2 al H O x y _ e Q R rel rx ry h hq)
  | tup i => exact .inl (h2 al H O x y _ e Q R rel rx ry h hq)
  | _ => exact .inr (lstCase h)⟩
/-! ### list(xs), a new list of one's own -/
def xListO (t : TX) : TX := fun G O Q E => t G O (fun d O1 => optK (seqD O1 d) fun ds => Q (.own O1.length) (O1 ++ [.lst ds])) E
end
end Px

namespace Px
open PySem PySem.Spec PyProof.Rows L2
/-! ### own lists made -/
def dListOO (ds : List D) (O : Om) (Q : QX) : Prop := match ds with
  | [d] => optK (seqD O d) fun es => Q (.own O.length) (O ++ [.lst es])
  | _ => False
theorem f_listO {X : Cx} : FO X (.type "list") dListOO := ⟨_, call_list_of, fun al H O xs ds Q R rel r h hq => by
  match ds, h with
  | [d], h =>
    obtain ⟨v, rfl, rv⟩ := r.one
    obtain ⟨es, e1, e2⟩ := optK.ex h
    obtain ⟨a, ys, rfl, hs, hr, hz⟩ := seqD_rp rel rv e1
    refine ⟨a, ys, rfl, hs, fun p hp => hq _ _ _ _ _ (stp_own rel.live hp) (rel.own (c := .lst es) hp ⟨ys, upd_same, hz, hr.mono (stp_own rel.live hp)⟩) ?_ e2⟩
    rw [← rel.len]
    exact own_new⟩
/-! ### module-level tables with text keys -/
def tabGet (kvs : List (Str × D)) (z : Str) : Option D := valD kvs z
structure KTab (K : PySem.W.Frag) (w : World) (mg : Str → Option Value) (x : Str) (kvs : List (Str × D)) : Prop where
  ex : ∃ a es n, mg x = some (.ref a) ∧ KDict K w a es n ∧ ∀ z : Str, match valD kvs z with
    | some d => ∃ u v, PySem.W.nsIn K a z = some (some u) ∧ RelV v u ∧ ∀ al H, Rp K al H v d
    | none => PySem.W.nsIn K a z = some none
section
variable {X : Cx} {W : WX} {x : Str} {kvs : List (Str × D)} {p apos cpos pos : Pos} {e f : Expr}
def xKGet2 (kvs : List (Str × D)) (a b : TX) : TX := fun G O Q E => a G O (fun k O1 => b G O1 (fun z O2 => match k with
  | .str s => Q ((valD kvs s).getD z) O2
  | _ => False) E) E
def xKGet1 (kvs : List (Str × D)) (a : TX) : TX := fun G O Q E => a G O (fun k O1 => match k with
  | .str s => Q ((valD kvs s).getD .non) O1
  | _ => False) E
def xKIx (kvs : List (Str × D)) (a : TX) : TX := fun G O Q E => a G O (fun k O1 => match k with
  | .str s => optK (valD kvs s) fun d => Q d O1
  | _ => False) E
def dKIn (kvs : List (Str × D)) (neg : Bool) (d : D) (O : Om) (Q : QX) : Prop := match d with
  | .str s => Q (.bl (neg.xor (valD kvs s).isSome)) O
  | _ => False
def xKIn (kvs : List (Str × D)) (neg : Bool) (a : TX) : TX := fun G O Q E => a G O (fun k O1 => dKIn kvs neg k O1 Q) E
theorem kd_noDict {pins : List (Addr × Obj)} {σ : L2.St} {H : Hp} {s : Shared} {d : Addr} {es : Array DictEntry} {n : Nat} (D : KDict X.K X.w d es n) (I : Inv X pins σ H s) : ∀ b, Value.ref d = .ref b → ∃ ob, s.heap.get? b = some ob ∧ ob.dict = none := by
  intro b e
  cases e
  exact ⟨_, I.kIn _ _ D.at_, rfl⟩
theorem pe_tabname (g : KTab X.K X.w X.mg x kvs) (hg : Gl X x) (hd : (x == ("__debug__" : Str)) = false := by decide) : ∃ a es n, PE X (.Name x p) (tC (.ref a)) ∧ KDict X.K X.w a es n ∧ ∀ z : Str, match valD kvs z with
    | some d => ∃ u v, PySem.W.nsIn X.K a z = some (some u) ∧ RelV v u ∧ ∀ al H, Rp X.K al H v d
    | none => PySem.W.nsIn X.K a z = some none := by
  obtain ⟨a, es, n, hm, D, q⟩ := g.ex
  exact ⟨a, es, n, pe_glob hg hm rfl hd, D, q⟩
theorem px_kget2 {xa xb : TX} (g : KTab X.K X.w X.mg x kvs) (ha : PX X W e xa) (hb : PX X W f xb) (hg : Gl X x := by rfl) (m : M2 X (.Name x p) "get" apos e f cpos := by exact ⟨rfl, rfl, rfl, rfl⟩) (hd : (x == ("__debug__" : Str)) = false := by decide) :
    PX X W (.Call (.Attribute (.Name x p) "get" apos) [e, f] [] cpos) (xKGet2 kvs xa xb) := by
  obtain ⟨a, es, n, pn, D, tab⟩ := pe_tabname (p := p) g hg hd
  obtain ⟨te, p1, q1⟩ := ha
  obtain ⟨tf, p2, q2⟩ := hb
  refine ⟨fun σ H Q => te σ H fun y H1 => tf σ H1 fun z H2 => ∃ s o, y = .str s ∧ (match o with | some v => ∃ u, PySem.W.nsIn X.K a s = some (some u) ∧ RelV v u | none => PySem.W.nsIn X.K a s = some none) ∧ Q (o.getD z) H2, ⟨fun pins s σ H Q I h => ?_⟩, ?_⟩
  · refine wpAny_Call_method m.base m.few m.line PySem.F.plainAttrs_dict PySem.F.slot_dict_get PySem.F.type_dict_get (thn (pn.run pins s σ H (fun v H' => v = .ref a ∧ H' = H) I ⟨rfl, rfl⟩) fun u s1 ⟨x', H1, I1, rx, ex, eh⟩ => ?_)
    subst ex eh
    obtain rfl : u = Value.ref a := rx
    refine ⟨kd_type D I1, kd_noDict D I1, ?_⟩
    rw [m.trees]
    refine Calls.callWith_builtin rfl (Calls.evalArgs_plain (Calls.spliced_cons (thn (p1.run pins s1 σ _ _ I1 h) fun iv s2 ⟨y, H2, I2, ry, q2⟩ =>
      Calls.spliced_cons (thn (p2.run pins s2 σ H2 _ I2 q2) fun fv s3 ⟨z, H3, I3, rz, st, o, ey, ho, q3⟩ => Calls.spliced_nil ?_))))
    subst ey
    obtain ⟨t, rfl⟩ := (show ∃ t, iv = Value.str st t from ry)
    have mp := PySem.W.mapOf_K (prog := X.prog) (w := X.w) I3.kIn D.at_ D.lit
    refine call_meetsIn PySem.F.slot_dict_get mp.typeIs PySem.F.entry_dict_get (PySem.F.args_dict_get_3 _ _ _) (meets_dict_get_default (strKind X.prog X.w) a (PySem.strKind_is X.prog X.w st t) D.low fv) ⟨_, mp, ?_⟩
    cases o with
    | none =>
      rw [PySem.W.find_K D.at_ ho]
      exact ⟨z, H3, I3.tok _, rz, q3⟩
    | some v =>
      obtain ⟨u, ho, ru⟩ := ho
      rw [PySem.W.find_K D.at_ ho]
      exact ⟨v, H3, I3.tok _, ru, q3⟩
  · intro al H σ G O Q E R rel env h hq he
    refine q1 al H σ G O _ E _ rel env h (fun al1 H1 O1 y d s1 rel1 r1 z1 => ?_) he
    refine q2 al1 H1 σ G O1 _ E _ rel1 (env.mono s1) z1 (fun al2 H2 O2 y2 d2 s2 rel2 r2 z2 => ?_) (fun _ _ _ _ _ _ s' => he _ _ _ _ _ _ (s1.trans s'))
    cases d with
    | str st =>
      cases r1
      have z2 : Q ((valD kvs st).getD d2) O2 := z2
      have tz := tab st
      cases e : valD kvs st with
      | none =>
        rw [e] at tz z2
        exact ⟨st, .none, rfl, tz, hq _ _ _ _ _ (s1.trans s2) rel2 r2 z2⟩
      | some d3 =>
        rw [e] at tz z2
        obtain ⟨u, v, h1, h2, h3⟩ := tz
        exact ⟨st, .some v, rfl, ⟨u, h1, h2⟩, hq _ _ _ _ _ (s1.trans s2) rel2 (h3 _ _) z2⟩
    | _ => exact (show False from z2).elim
theorem px_kget1 {xa : TX} (g : KTab X.K X.w X.mg x kvs) (ha : PX X W e xa) (hg : Gl X x := by rfl) (m : M1 X (.Name x p) "get" apos e cpos := by exact ⟨rfl, rfl, rfl, rfl⟩) (hd : (x == ("__debug__" : Str)) = false := by decide) :
    PX X W (.Call (.Attribute (.Name x p) "get" apos) [e] [] cpos) (xKGet1 kvs xa) := by
  obtain ⟨a, es, n, pn, D, tab⟩ := pe_tabname (p := p) g hg hd
  obtain ⟨te, p1, q1⟩ := ha
  refine ⟨fun σ H Q => te σ H fun y H2 => ∃ s o, y = .str s ∧ (match o with | some v => ∃ u, PySem.W.nsIn X.K a s = some (some u) ∧ RelV v u | none => PySem.W.nsIn X.K a s = some none) ∧ Q (o.getD .non) H2, ⟨fun pins s σ H Q I h => ?_⟩, ?_⟩
  · refine wpAny_Call_method m.base m.few m.line PySem.F.plainAttrs_dict PySem.F.slot_dict_get PySem.F.type_dict_get (thn (pn.run pins s σ H (fun v H' => v = .ref a ∧ H' = H) I ⟨rfl, rfl⟩) fun u s1 ⟨x', H1, I1, rx, ex, eh⟩ => ?_)
    subst ex eh
    obtain rfl : u = Value.ref a := rx
    refine ⟨kd_type D I1, kd_noDict D I1, ?_⟩
    rw [m.trees]
    refine Calls.callWith_builtin rfl (Calls.evalArgs_plain (Calls.spliced_cons (thn (p1.run pins s1 σ _ _ I1 h) fun iv s3 ⟨y, H3, I3, ry, st, o, ey, ho, q3⟩ => Calls.spliced_nil ?_)))
    subst ey
    obtain ⟨t, rfl⟩ := (show ∃ t, iv = Value.str st t from ry)
    have mp := PySem.W.mapOf_K (prog := X.prog) (w := X.w) I3.kIn D.at_ D.lit
    refine call_meetsIn PySem.F.slot_dict_get mp.typeIs PySem.F.entry_dict_get (PySem.F.args_dict_get_2 _ _) (meets_dict_get (strKind X.prog X.w) a (PySem.strKind_is X.prog X.w st t) D.low) ⟨_, mp, ?_⟩
    cases o with
    | none =>
      rw [PySem.W.find_K D.at_ ho]
      exact ⟨.non, H3, I3.tok _, rfl, q3⟩
    | some v =>
      obtain ⟨u, ho, ru⟩ := ho
      rw [PySem.W.find_K D.at_ ho]
      exact ⟨v, H3, I3.tok _, ru, q3⟩
  · intro al H σ G O Q E R rel env h hq he
    refine q1 al H σ G O _ E _ rel env h (fun al1 H1 O1 y d s1 rel1 r1 z1 => ?_) he
    cases d with
    | str st =>
      cases r1
      have z2 : Q ((valD kvs st).getD .non) O1 := z1
      have tz := tab st
      cases e : valD kvs st with
      | none =>
        rw [e] at tz z2
        exact ⟨st, .none, rfl, tz, hq _ _ _ _ _ s1 rel1 .non z2⟩
      | some d3 =>
        rw [e] at tz z2
        obtain ⟨u, v, h1, h2, h3⟩ := tz
        exact ⟨st, .some v, rfl, ⟨u, h1, h2⟩, hq _ _ _ _ _ s1 rel1 (h3 _ _) z2⟩
    | _ => exact (show False from z1).elim
theorem px_kix {xa : TX} (g : KTab X.K X.w X.mg x kvs) (ha : PX X W e xa) (hg : Gl X x := by rfl) (hd : (x == ("__debug__" : Str)) = false := by decide) (hs : PlainIx e := by exact fun _ _ => rfl) :
    PX X W (.Subscript (.Name x p) e pos) (xKIx kvs xa) := by
  obtain ⟨a, es, n, pn, D, tab⟩ := pe_tabname (p := p) g hg hd
  obtain ⟨te, p1, q1⟩ := ha
  refine ⟨_, pe_ix ix_kdict pn p1 hs, ?_⟩
  intro al H σ G O Q E R rel env h hq he
  refine q1 al H σ G O _ E _ rel env h (fun al1 H1 O1 y d s1 rel1 r1 z1 => ?_) he
  cases d with
  | str st =>
    cases r1
    obtain ⟨d3, e, z2⟩ := optK.ex z1
    have tz := tab st
    rw [e] at tz
    obtain ⟨u, v, h1, h2, h3⟩ := tz
    exact ⟨a, st, v, rfl, rfl, ⟨es, n, u, D.at_, D.lit, h1, h2⟩, hq _ _ _ _ _ s1 rel1 (h3 _ _) z2⟩
  | _ => exact (show False from z1).elim
theorem rd_kin {K : PySem.W.Frag} {a : Addr} {neg : Bool} {te : TE} {xa : TX} (tab : ∀ z : Str, match valD kvs z with
    | some d => ∃ u v, PySem.W.nsIn K a z = some (some u) ∧ RelV v u ∧ ∀ al H, Rp K al H v d
    | none => PySem.W.nsIn K a z = some none) (q1 : RdE K W te xa) : RdE K W (tOp (fun x y H Q => ∃ (z : Str) (r : Option Value), x = .str z ∧ y = .ref a ∧ PySem.W.nsIn K a z = some r ∧ Q (.bl (neg.xor r.isSome)) H) te (tC (.ref a))) (xKIn kvs neg xa) := by
  intro al H σ G O Q E R rel env h hq he
  refine q1 al H σ G O _ E _ rel env h (fun al1 H1 O1 y d s1 rel1 r1 z1 => ?_) he
  cases d with
  | str st =>
    cases r1
    have z2 : Q (.bl (neg.xor (valD kvs st).isSome)) O1 := z1
    have tz := tab st
    cases e : valD kvs st with
    | none =>
      rw [e] at tz z2
      exact ⟨st, .none, rfl, rfl, tz, hq _ _ _ _ _ s1 rel1 (.bl _) z2⟩
    | some d3 =>
      rw [e] at tz z2
      obtain ⟨u, v, h1, h2, h3⟩ := tz
      exact ⟨st, .some u, rfl, rfl, h1, hq _ _ _ _ _ s1 rel1 (.bl _) z2⟩
  | _ => exact (show False from z1).elim
theorem px_kin {xa : TX} (g : KTab X.K X.w X.mg x kvs) (ha : PX X W e xa) (hg : Gl X x := by rfl) (hd : (x == ("__debug__" : Str)) = false := by decide) (hm : behindInMarks .In (.Name x p) = false := by first | rfl | exact nomark _) :
    PX X W (.Compare e [.In] [.Name x p] pos) (xKIn kvs false xa) := by
  obtain ⟨a, es, n, pn, D, tab⟩ := pe_tabname (p := p) g hg hd
  obtain ⟨te, p1, q1⟩ := ha
  refine ⟨_, pe_cmpR (r := fun x y H Q => ∃ (z : Str) (r : Option Value), x = .str z ∧ y = .ref a ∧ PySem.W.nsIn X.K a z = some r ∧ Q (.bl (false.xor r.isSome)) H) ?_ p1 pn hm, rd_kin tab q1⟩
  have z := op_in_kd (X := X) D
  simp only [Bool.false_xor]
  exact z
end
inductive TabR (K : PySem.W.Frag) : List DictEntry → List (Str × D) → Prop
  | nil : TabR K [] []
  | cons {h : Int} {s : Str} {t : Tok} {u : Value} {v : V} {d : D} {es : List DictEntry} {kvs : List (Str × D)} : RelV v u → (∀ al H, Rp K al H v d) → TabR K es kvs → TabR K (⟨h, .str s t, u⟩ :: es) ((s, d) :: kvs)
theorem TabR.find {K : PySem.W.Frag} {z : Str} : ∀ {es : List DictEntry} {kvs : List (Str × D)}, TabR K es kvs → match valD kvs z with
    | some d => ∃ e u v, es.find? (·.key.isStr z) = some e ∧ e.val = u ∧ RelV v u ∧ ∀ al H, Rp K al H v d
    | none => es.find? (·.key.isStr z) = none ∧ es.any (·.refKey) = false
  | _, _, .nil => ⟨rfl, rfl⟩
  | _, _, @TabR.cons _ h s t u v d es kvs h1 h2 h3 => by
    by_cases e : s = z
    · rw [valD_pos (p := (s, d)) e]
      refine ⟨_, u, v, List.find?_cons_of_pos (by subst e; show (s == s) = true; simp), rfl, h1, h2⟩
    · rw [valD_neg (p := (s, d)) e]
      have ih := TabR.find (z := z) h3
      have hn : (Value.str s t).isStr z = false := by show (s == z) = false; simpa using e
      cases q : valD kvs z with
      | some d' =>
        rw [q] at ih
        obtain ⟨e1, u1, v1, f1, f2⟩ := ih
        exact ⟨e1, u1, v1, by rw [List.find?_cons_of_neg (by simpa using hn)]; exact f1, f2⟩
      | none =>
        rw [q] at ih
        exact ⟨by rw [List.find?_cons_of_neg (by simpa using hn)]; exact ih.1, by rw [List.any_cons, ih.2]; rfl⟩
theorem ktab_mk {K : PySem.W.Frag} {w : World} {mg : Str → Option Value} {x : Str} {kvs : List (Str × D)} {a : Addr} {es : Array DictEntry} {n : Nat} (hm : mg x = some (.ref a)) (hl : K.lookup a = some ⟨.type "dict", none, .dict es n, #[]⟩)
    (hk : PySem.W.KeysLit w.params es.toList) (low : (a == sysModules) = false) (r : TabR K es.toList kvs) : KTab K w mg x kvs := by
  refine ⟨a, es, n, hm, ⟨hl, hk, low⟩, fun z => ?_⟩
  have q := r.find (z := z)
  cases e : valD kvs z with
  | some d =>
    rw [e] at q
    obtain ⟨e1, u, v, f1, rfl, f2, f3⟩ := q
    refine ⟨_, v, ?_, f2, f3⟩
    unfold PySem.W.nsIn
    rw [hl]
    dsimp only
    rw [f1]
  | none =>
    rw [e] at q
    show PySem.W.nsIn K a z = some none
    unfold PySem.W.nsIn
    rw [hl]
    dsimp only
    rw [q.1]
    dsimp only
    rw [q.2]
    rfl
/-! ### module-level tuples -/
theorem rpa_const {K : PySem.W.Frag} : ∀ {xs : List V} {ds : List D}, (∀ al H, RpA K al H xs ds) → ∀ al H, RpA K al H xs ds := fun h => h
structure ConT (K : PySem.W.Frag) (mg : Str → Option Value) (x : Str) (ds : List D) : Prop where
  ex : ∃ a xs, mg x = some (.ref a) ∧ (∀ H, SqT K H a xs) ∧ ∀ al H, RpA K al H xs ds
theorem con_tup {K : PySem.W.Frag} {mg : Str → Option Value} {x : Str} {a : Addr} {od : Option Addr} {its : Array Value} {n : Nat} {sl : Array (Option Value)} {xs : List V} {ds : List D} (h : mg x = some (.ref a)) (hl : K.lookup a = some ⟨.type "tuple", od, .seq its n, sl⟩)
    (hv : Vals xs its.toList) (hz : xs.length ≤ 1000) (hr : ∀ al H, RpA K al H xs ds) : ConT K mg x ds := by
  have e : xs.length = its.size := by
    have e := hv.length
    simpa using e
  have hs : its.size ≤ sizeLine := by rw [← e, sizeLine_eq]; omega
  exact ⟨⟨a, xs, h, fun H => .inr ⟨_, its, n, hl, rfl, rfl, hs, hv⟩, hr⟩⟩
def dInT (neg : Bool) (ds : List D) (d : D) (O : Om) (Q : QX) : Prop := D.ok 0 d = true ∧ D.oks 0 ds = true ∧ Q (.bl (neg.xor (ds.any fun z => D.eq z d))) O
def xInT (neg : Bool) (ds : List D) (t : TX) : TX := fun G O Q E => t G O (fun d O1 => dInT neg ds d O1 Q) E
theorem rd_inT {K : PySem.W.Frag} {W : WX} {neg : Bool} {te : TE} {t : TX} {a : Addr} {xs : List V} {ds : List D} (hs : ∀ H, SqT K H a xs) (hr : ∀ al H, RpA K al H xs ds) (h : RdE K W te t) : RdE K W (tOp (rIn K neg) te (tC (.ref a))) (xInT neg ds t) := by
  intro al H σ G O Q E R rel env q hq he
  refine h al H σ G O _ E _ rel env q (fun al1 H1 O1 v d s1 rel1 r1 q1 => ?_) he
  obtain ⟨h1, h2, h3⟩ := q1
  refine ⟨a, xs, rfl, .inr (hs H1), flat_rp r1 h1, flats_rp (hr al1 H1) h2, ?_⟩
  rw [any_rp r1 h1 (hr al1 H1) h2]
  cases neg with
  | false => rw [Bool.false_xor] at h3; exact hq _ _ _ _ _ s1 rel1 (.bl _) h3
  | true => rw [Bool.true_xor] at h3; exact hq _ _ _ _ _ s1 rel1 (.bl _) h3
theorem px_inT {X : Cx} {W : WX} {x : Str} {ds : List D} {e : Expr} {t : TX} {p pos : Pos} (g : ConT X.K X.mg x ds) (h : PX X W e t) (hg : Gl X x := by rfl) (hd : (x == ("__debug__" : Str)) = false := by decide) (hm : behindInMarks .In (.Name x p) = false := by first | rfl | exact nomark _) : PX X W (.Compare e [.In] [.Name x p] pos) (xInT false ds t) :=
  let ⟨_, _, e1, e2, e3⟩ := g.ex; let ⟨_, p1, q1⟩ := h; ⟨_, pe_cmpR op_in_seq p1 (pe_glob (v := .ref _) hg e1 rfl hd) hm, rd_inT e2 e3 q1⟩
theorem px_notInT {X : Cx} {W : WX} {x : Str} {ds : List D} {e : Expr} {t : TX} {p pos : Pos} (g : ConT X.K X.mg x ds) (h : PX X W e t) (hg : Gl X x := by rfl) (hd : (x == ("__debug__" : Str)) = false := by decide) (hm : behindInMarks .NotIn (.Name x p) = false := by first | rfl | exact nomark _) : PX X W (.Compare e [.NotIn] [.Name x p] pos) (xInT true ds t) :=
  let ⟨_, _, e1, e2, e3⟩ := g.ex; let ⟨_, p1, q1⟩ := h; ⟨_, pe_cmpR op_notIn_seq p1 (pe_glob (v := .ref _) hg e1 rfl hd) hm, rd_inT e2 e3 q1⟩
end Px

namespace Px
open PySem PySem.Spec PyProof.Rows L2
/-! ### xs[::-1], lists and tuples -/
section
variable {prog : Program} {w : World} {A : Around} {E : Value → Shared → Prop} {s : Shared}
theorem sliceApplied_rev {sl : Addr} {vs : Value} {n : Nat} {Q : Int × Int × Nat → Shared → Prop} (hs : s.heap.IsSliceOf sl .none .none vs) (ps : IsPart vs (some (-1)))
    (h : Q ((n : Int) - 1, -1, n) s) : wpAny (model prog w) A (Builtin.Slice.sliceApplied (.ref sl) (pure (n : Int))) Q E s := by
  obtain ⟨os, hos, hcs, hds⟩ := id hs
  unfold Builtin.Slice.sliceApplied Builtin.Slice.sliceFields
  refine wpAny_bind (wpAny_bind (wpAny_field hos hds (x := .none) rfl (wpAny_bind (wpAny_field hos hds (x := .none) rfl (wpAny_bind (wpAny_field hos hds (x := vs) rfl (wpAny_pure ?_)))))))
  refine wpAny_bind (HT.slicePart_ ps ?_)
  show wpAny _ _ (if ((-1 : Int) == 0) = true then _ else _) _ _ s
  rw [if_neg (by decide)]
  refine wpAny_bind (slicePart_none (wpAny_bind (slicePart_none (wpAny_bind (wpAny_pure ?_)))))
  show wpAny _ _ (match Builtin.Slice.sliceAdjust none none (-1) (n : Int) with | (lo, hi) => pure (lo, (-1 : Int), Builtin.Slice.slicePlaces lo hi (-1))) _ _ s
  have e1 : Builtin.Slice.sliceAdjust none none (-1) (n : Int) = ((n : Int) - 1, -1) := rfl
  have e2 : Builtin.Slice.slicePlaces ((n : Int) - 1) (-1) (-1) = n := by
    unfold Builtin.Slice.slicePlaces
    rw [if_neg (by decide)]
    split
    · show (((n : Int) - 1 - (-1) - 1) / 1 + 1).toNat = n
      rw [Int.ediv_one]; omega
    · show (0 : Int).toNat = n
      simp; omega
  rw [e1]
  show wpAny _ _ (pure ((n : Int) - 1, (-1 : Int), Builtin.Slice.slicePlaces ((n : Int) - 1) (-1) (-1))) _ _ s
  rw [e2]
  exact wpAny_pure h
theorem fm_congr {α β : Type} {f g : α → Option β} : ∀ {l : List α}, (∀ m ∈ l, f m = g m) → l.filterMap f = l.filterMap g
  | [], _ => rfl
  | a :: l, h => by
    rw [List.filterMap_cons, List.filterMap_cons, h a (List.mem_cons_self ..), fm_congr fun m hm => h m (List.mem_cons_of_mem _ hm)]
theorem pick_rev (xs : Array Value) : ((List.range xs.size).filterMap fun (m : Nat) => xs[((xs.size : Int) - 1 + (m : Int) * (-1)).toNat]?).toArray = xs.toList.reverse.toArray := by
  congr 1
  have e : ∀ (m : Nat), m < xs.size → xs[((xs.size : Int) - 1 + (m : Int) * (-1)).toNat]? = xs.toList.reverse[m]? := fun m hm => by
    rw [List.getElem?_reverse (by rw [Array.length_toList]; exact hm), Array.length_toList, Array.getElem?_toList]
    congr 1; omega
  have e2 : (List.range xs.size).filterMap (fun (m : Nat) => xs[((xs.size : Int) - 1 + (m : Int) * (-1)).toNat]?) = (List.range xs.size).filterMap (fun (m : Nat) => xs.toList.reverse[m]?) :=
    fm_congr fun m hm => e m (List.mem_range.mp hm)
  rw [e2]
  have hl : xs.size = xs.toList.reverse.length := by rw [List.length_reverse, Array.length_toList]
  rw [hl]
  generalize xs.toList.reverse = l
  clear e e2 hl
  induction l with
  | nil => rfl
  | cons a l ih =>
    rw [List.length_cons, List.range_succ_eq_map, List.filterMap_cons]
    simp only [List.getElem?_cons_zero, List.filterMap_map]
    congr 1
theorem getItem_tuple_rev {t sl : Addr} {items : Array Value} {vs : Value} {Q : Value → Shared → Prop} (ht : IsTup s.heap t items) (hs : s.heap.IsSliceOf sl .none .none vs) (ps : IsPart vs (some (-1)))
    (h : Q (.ref s.heap.objs.size) { s with heap := s.heap.push { cls := .type "tuple", data := .seq items.toList.reverse.toArray } })
    (hsz : items.size ≤ sizeLine) : wpAny (model prog w) A (getItem (.ref t) (.ref sl)) Q E s := by
  have htake : sizeOk (.seq items.toList.reverse.toArray) := by
    show items.toList.reverse.toArray.size ≤ sizeLine
    rw [List.size_toArray, List.length_reverse, Array.length_toList]
    exact hsz
  obtain ⟨os, hos, hcs, hds⟩ := id hs
  have hTs : s.TypeIs (.ref sl) "slice" := ⟨os, hos, hcs⟩
  unfold getItem
  try with_reducible refine wpAny_holding ?_
  first | refine wpAny_bind (wpAny_pure ?_) | skip
  refine wpAny_bind (wpAny_sequenceKey ht.typeIs (by decide) ?_)
  refine wpAny_bind (wpAny_callSpecial?_slot (name := Str.ofString "__getitem__") ht.typeIs PyProof.Rows.slot_tuple_getitem
    (wpAny_call_entry PyProof.Rows.slot_tuple_getitem ht.typeIs entry_tuple_getitem ?_ (args_tuple_getitem _ _)))
  show wpAny _ _ (Builtin.Tuple.tupleItemsOf (.ref t) >>= _) _ _ s
  refine wpAny_bind (tupleItemsOf_ ht ?_)
  refine wpAny_bind (wpAny_typeOf hTs ?_)
  rw [if_pos (by decide)]
  refine wpAny_bind (sliceApplied_rev hs ps ?_)
  have hno : ¬ ((((items.size : Int) - 1) == 0 && (-1 : Int) == 1 && items.size == items.size) = true) := by
    intro q
    rw [Bool.and_eq_true, Bool.and_eq_true] at q
    exact absurd q.1.2 (by decide)
  show wpAny _ _ (if (((items.size : Int) - 1) == 0 && (-1 : Int) == 1 && items.size == items.size) = true then _ else _) _ _ s
  rw [if_neg hno, pick_rev]
  first
    | exact wpAny_bind (m := Builtin.Tuple.tupleExact _) (wpAny_newObj_type (wpAny_pure ⟨_, rfl, wpAny_pure h⟩) htake)
    | exact wpAny_bind (m := Builtin.Tuple.tupleExact _) (wpAny_newObj_type (wpAny_bind (wpAny_pure (wpAny_pure ⟨_, rfl, wpAny_pure h⟩))) htake)
    | exact wpAny_bind (wpAny_bind (m := Builtin.Tuple.tupleExact _) (wpAny_newObj_type (wpAny_pure (wpAny_pure ⟨_, rfl, wpAny_pure h⟩)) htake))
    | exact wpAny_bind (wpAny_bind (m := Builtin.Tuple.tupleExact _) (wpAny_newObj_type (wpAny_pure ⟨_, rfl, wpAny_pure h⟩) htake))
end
def tRevA (K : PySem.W.Frag) (te : TE) : TE := fun σ H Q => te σ H fun x H1 => (∃ a xs, x = .ref a ∧ SqL K H1 a xs ∧ ∀ p, H1 p = none → Q (.ref p) (upd H1 p (.lst xs.reverse))) ∨
  ∃ a xs, x = .ref a ∧ SqT K H1 a xs ∧ ∀ p, H1 p = none → Q (.ref p) (upd H1 p (.tup xs.reverse))
section
variable {X : Cx} {W : WX} {e : Expr} {te : TE} {k : Nat} {p1 p2 p3 pos : Pos}
theorem pe_revA (he : PE X e te) : PE X (.Subscript e (.Slice none none (some (.UnaryOp .USub (.Constant (.int 1) k p1) p2)) p3) pos) (tRevA X.K te) := by
  refine ⟨fun pins s σ H Q I h => ?_⟩
  refine Subscript_ (thn (he.run pins s σ H _ I h) fun v s1 ⟨x, H1, I1, r1, q1⟩ => ?_)
  have hst : PO X (some (.UnaryOp .USub (.Constant (.int 1) k p1) p2)) (tPart (tUn (rU fun i => .int (-i)) (tC (.int 1)))) := po_some (pe_un un_neg pe_int)
  refine wpAny_Slice (thn (po_none.run pins s1 σ H1 (fun o H2 => o = none ∧ H2 = H1) I1 ⟨rfl, rfl⟩) fun vl s2 ⟨l, H2, I2, pl, el, e2⟩ => ?_)
  subst el e2
  refine thn (po_none.run pins s2 σ H2 (fun o H3 => o = none ∧ H3 = H2) I2 ⟨rfl, rfl⟩) fun vu s3 ⟨u, H3, I3, pu, eu, e3⟩ => ?_
  subst eu e3
  refine thn (hst.run pins s3 σ H3 (fun o H4 => o = some (-1) ∧ H4 = H3) I3 ⟨1, rfl, -1, rfl, rfl, rfl⟩) fun vs s4 ⟨o, H4, I4, ps, eo, e4⟩ => ?_
  subst eo e4
  have I5 : Inv X pins σ H4 { s4 with heap := s4.heap.push { cls := .type "slice", data := .fields #[vl, vu, vs] } } := I4.kept (t' := s4.toks) fun b ob q => Heap.get?_push_of_some _ q
  rcases q1 with ⟨a, xs, ex, hx, q⟩ | ⟨a, xs, ex, hx, q⟩
  · subst ex
    cases r1
    obtain ⟨its, r, ht, hz⟩ := I5.list hx
    have hlen := r.length
    show wpAny (model X.prog X.w) X.A (subscriptTail e (.Slice none none (some (.UnaryOp .USub (.Constant (.int 1) k p1) p2)) p3) (.ref a) (.ref s4.heap.objs.size)) (EP X pins σ Q) X.xe { s4 with heap := s4.heap.push { cls := .type "slice", data := .fields #[vl, vu, vs] } }
    refine tail_any (ops := [.ref a, .ref s4.heap.objs.size]) ht.isList.typeIs (PySem.slot_list_getitem.lookup) ?_ (by with_unfolding_all rfl)
    refine wpAny_getItem_list_slice ht.isList (Heap.IsSliceOf.new _ vl vu vs) pl pu ps (by decide) ?_ (by rw [List.size_toArray]; omega)
    rw [PySem.W.krv_pick]
    refine ⟨.ref _, _, I5.laid (t' := s4.toks) (o := .lst xs.reverse) (fun b ob q => Heap.get?_push_of_some _ q) (Nat.le_refl _) ?_, rfl, q _ (I5.hok.fresh (Nat.le_refl _))⟩
    exact ⟨by rw [List.length_reverse]; exact hz, _, 0, r.reverse, Heap.get?_push_size _ rfl⟩
  · subst ex
    cases r1
    cases pl
    cases pu
    obtain ⟨its, r, ht, hz⟩ := I5.tuple hx
    have hlen := r.length
    show wpAny (model X.prog X.w) X.A (subscriptTail e (.Slice none none (some (.UnaryOp .USub (.Constant (.int 1) k p1) p2)) p3) (.ref a) (.ref s4.heap.objs.size)) (EP X pins σ Q) X.xe { s4 with heap := s4.heap.push { cls := .type "slice", data := .fields #[.none, .none, vs] } }
    refine tail_any (ops := [.ref a, .ref s4.heap.objs.size]) ht.typeIs (PyProof.Rows.slot_tuple_getitem.lookup) ?_ (by with_unfolding_all rfl)
    refine getItem_tuple_rev ht (Heap.IsSliceOf.new _ .none .none vs) ps ?_ (by rw [List.size_toArray]; omega)
    refine ⟨.ref _, _, I5.laid (t' := s4.toks) (o := .tup xs.reverse) (fun b ob q => Heap.get?_push_of_some _ q) (Nat.le_refl _) ?_, rfl, q _ (I5.hok.fresh (Nat.le_refl _))⟩
    exact ⟨by rw [List.length_reverse]; exact hz, _, r.reverse, IsTup.new _ _⟩
def dRevSl (d : D) (O : Om) (Q : QX) : Prop := match d with
  | .tup ds => Q (.tup ds.reverse) O
  | d => optK (lstD O d) fun ds => Q (.lst ds.reverse) O
def xRevSl (a : TX) : TX := fun G O Q E => a G O (fun d O1 => dRevSl d O1 Q) E
theorem px_revA {t : TX} (h : PX X W e t) : PX X W (.Subscript e (.Slice none none (some (.UnaryOp .USub (.Constant (.int 1) k p1) p2)) p3) pos) (xRevSl t) := by
  obtain ⟨te, p, q⟩ := h
  refine ⟨_, pe_revA p, fun al H σ G O Q E R rel env h hq he => ?_⟩
  refine q al H σ G O _ E _ rel env h (fun al1 H1 O1 v d s1 rel1 r1 z1 => ?_) he
  have lstCase : (optK (lstD O1 d) fun ds => Q (.lst ds.reverse) O1) → ∃ a xs, v = .ref a ∧ SqL X.K H1 a xs ∧ ∀ p, H1 p = none → R (.ref p) (upd H1 p (.lst xs.reverse)) := fun h => by
    obtain ⟨ds, e1, h⟩ := h.ex
    obtain ⟨a, xs, rfl, hs, hr, hz⟩ := lstD_rp rel1 r1 e1
    exact ⟨a, xs, rfl, hs, fun p hp => hq _ _ _ _ _ (s1.trans (stp_new rel1.live hp)) (rel1.new hp) (new_lst rel1 hp hr.reverse (by rw [List.length_reverse]; exact hz)) h⟩
  cases d with
  | tup ds =>
    obtain ⟨a, xs, rfl, hs, hr, hz⟩ := r1.tupI
    exact .inr ⟨a, xs, rfl, hs, fun p hp => hq _ _ _ _ _ (s1.trans (stp_new rel1.live hp)) (rel1.new hp) (new_tup rel1 hp hr.reverse (by rw [List.length_reverse]; exact hz)) z1⟩
  | _ => exact .inl (lstCase z1)
end
end Px

namespace Px
open PySem PySem.Spec PyProof.Rows L2
/-! ### places, cuts -/
section
variable {α : Type} {x y z : α} {r : List α}
theorem atI_natP {xs : List α} {i : Nat} {a : α} (h : xs[i]? = some a) : atI xs (i : Int) = some a := by
  have hl := (List.getElem?_eq_some_iff.mp h).1
  unfold atI ixN
  rw [if_pos (by omega), if_pos (by omega)]
  simpa using h
theorem atI_0 : atI (x :: r) (0 : Int) = some x := atI_natP (i := 0) rfl
theorem atI_1 : atI (x :: y :: r) (1 : Int) = some y := atI_natP (i := 1) rfl
theorem atI_2 : atI (x :: y :: z :: r) (2 : Int) = some z := atI_natP (i := 2) rfl
theorem atI_end {xs : List α} : atI xs (-1 : Int) = xs.getLast? := by
  cases xs with
  | nil => rfl
  | cons a l =>
    unfold atI ixN
    rw [if_neg (by decide), if_pos (by rw [List.length_cons]; omega), List.getLast?_eq_getElem?]
    show (a :: l)[((-1 : Int) + ((a :: l).length : Nat)).toNat]? = _
    congr 1
    rw [List.length_cons]; omega
end
theorem sIx_neg1 {n d : Nat} (h : 1 ≤ n) : HT.sIx n d (some (-1)) = n - 1 := by
  show (if (-1 : Int) < 0 then ((-1 : Int) + (n : Int)).toNat else min (-1 : Int).toNat n) = _
  rw [if_pos (by decide)]; omega
theorem sIx_i {n d : Nat} {i : Int} (h0 : 0 ≤ i) : HT.sIx n d (some i) = min i.toNat n := by
  obtain ⟨k, rfl⟩ := Int.eq_ofNat_of_zero_le h0
  rw [HT.sIx_nat]; rfl
theorem cutD_m1 {ds : List D} : cutD ds none (some (-1)) = ds.dropLast := by
  cases ds with
  | nil => rfl
  | cons a l =>
    unfold cutD
    rw [sIx_neg1 (by simp)]
    show List.take (_ - 0) (List.drop 0 (a :: l)) = _
    rw [List.drop_zero, Nat.sub_zero, List.dropLast_eq_take]
theorem cutD_1m1 {x : D} {l : List D} : cutD (x :: l) (some 1) (some (-1)) = l.dropLast := by
  unfold cutD
  rw [sIx_neg1 (by simp), sIx_i (by decide)]
  show List.take _ (List.drop (min 1 (x :: l).length) (x :: l)) = _
  rw [show min 1 (x :: l).length = 1 from by rw [List.length_cons]; omega]
  show List.take ((x :: l).length - 1 - 1) l = _
  rw [List.dropLast_eq_take, List.length_cons]
  rfl
theorem cutD_hi {ds : List D} {i : Int} (h0 : 0 ≤ i) : cutD ds none (some i) = ds.take i.toNat := by
  unfold cutD
  rw [sIx_i h0]
  show List.take (_ - 0) (List.drop 0 ds) = _
  rw [List.drop_zero, Nat.sub_zero, ← List.take_eq_take_min]
theorem cutD_lo {ds : List D} {i : Int} (h0 : 0 ≤ i) : cutD ds (some i) none = ds.drop i.toNat := by
  unfold cutD
  rw [sIx_i h0]
  show List.take (ds.length - _) (List.drop (min i.toNat ds.length) ds) = _
  by_cases h : i.toNat ≤ ds.length
  · rw [Nat.min_eq_left h]
    exact List.take_of_length_le (by rw [List.length_drop]; omega)
  · rw [Nat.min_eq_right (by omega), List.drop_of_length_le (Nat.le_refl _), List.drop_of_length_le (by omega)]
    simp
theorem cutD_lohi {ds : List D} {i j : Int} (h0 : 0 ≤ i) (h1 : 0 ≤ j) : cutD ds (some i) (some j) = (ds.drop i.toNat).take (j.toNat - i.toNat) := by
  unfold cutD
  rw [sIx_i h0, sIx_i h1]
  by_cases h : i.toNat ≤ ds.length
  · rw [Nat.min_eq_left h]
    by_cases h2 : j.toNat ≤ ds.length
    · rw [Nat.min_eq_left h2]
    · rw [Nat.min_eq_right (by omega)]
      rw [List.take_of_length_le (by rw [List.length_drop]; omega), List.take_of_length_le (by rw [List.length_drop]; omega)]
  · have e : min i.toNat ds.length = ds.length := Nat.min_eq_right (by omega)
    rw [e, List.drop_of_length_le (Nat.le_refl _), List.drop_of_length_le (by omega)]
    simp
theorem pickK {xs : List D} {i : Int} {k : D → Prop} (P : D → Prop) (h0 : 0 ≤ i) (h1 : i < xs.length) (h : ∀ d ∈ xs, P d) (hk : ∀ d, P d → k d) : optK (atI xs i) k := by
  obtain ⟨d, hm, e⟩ := atI_pick h0 h1
  exact optK.mk e (hk d (h d hm))
/-! ### closed data -/
theorem cls_strs {α : Type} {n : Nat} (f : α → Str) : ∀ l : List α, D.cls n (l.map fun x => .str (f x)) = true
  | [] => rfl
  | x :: l => by show (true && D.cls n (l.map fun x => .str (f x))) = true; rw [cls_strs f l]; rfl
theorem cls_of {n : Nat} : ∀ {l : List D}, (∀ d ∈ l, d.cl n = true) → D.cls n l = true
  | [], _ => rfl
  | x :: l, h => by show (D.cl n x && D.cls n l) = true; rw [h x (List.mem_cons_self ..), cls_of fun d hd => h d (List.mem_cons_of_mem _ hd)]; rfl
theorem rt_drop {Q : QX} {d : D} {O G : Om} (hc : d.cl O.length = true) (hcl : OmCl O) (h : Q d O) : Rt O.length Q d (O ++ G) := .inr ⟨O, G, rfl, rfl, hc, hcl, h⟩
theorem rt_dead {Q : QX} {d : D} {O : Om} {c : Cell} (hc : d.cl O.length = true) (hcl : OmCl O) (h : Q d O) : Rt O.length Q d ((O ++ [c]).set O.length .dead) := by
  rw [List.set_append_right _ _ (Nat.le_refl _), Nat.sub_self]
  exact rt_drop hc hcl h
theorem set_new {O : Om} {c c' : Cell} : (O ++ [c]).set O.length c' = O ++ [c'] := by
  rw [List.set_append_right _ _ (Nat.le_refl _), Nat.sub_self]; rfl
theorem isTy_l {O : Om} {k : Nat} {ds : List D} (h : O[k]? = some (.lst ds)) : isTy "list" O (.own k) := by
  show (match O[k]? with | some (.lst _) => "list" = "list" | some (.dK _) => "list" = "dict" | some (.dT _) => "list" = "dict" | _ => False)
  rw [h]
theorem isTy_d {O : Om} {k : Nat} {ds : List (Key × D)} (h : O[k]? = some (.dK ds)) : isTy "dict" O (.own k) := by
  show (match O[k]? with | some (.lst _) => "dict" = "list" | some (.dK _) => "dict" = "dict" | some (.dT _) => "dict" = "dict" | _ => False)
  rw [h]
/-! ### names -/
theorem joinL_nil : ∀ l : List (List Nat), TL.joinL [] l = l.flatten
  | [] => rfl
  | [p] => by show p = _; simp
  | p :: q :: r => by show p ++ ([] ++ TL.joinL [] (q :: r)) = _; rw [joinL_nil (q :: r)]; simp
theorem join0 {ys : List Str} : (Txt.join (Str.ofString "") ys).cps.toList = (ys.map fun y => y.cps.toList).flatten := by
  rw [TL.join_eq]
  exact (TL.tl_join _ _).trans (joinL_nil _)
theorem join_signs {cs : List Nat} : (Txt.join (Str.ofString "") (cs.map fun c => (⟨#[c]⟩ : Str))).cps.toList = cs := by
  rw [join0, List.map_map]
  induction cs with
  | nil => rfl
  | cons c cs ih => rw [List.map_cons, List.flatten_cons, ih]; rfl
theorem str_ext {x y : Str} (h : x.cps.toList = y.cps.toList) : x = y := Str.ext' (Array.toList_inj.mp h)
theorem str_len {x : Str} : x.length = x.cps.toList.length := by rw [Array.length_toList]; rfl
theorem join_signs' {cs : List Nat} : Txt.join (Str.ofString "") (cs.map fun c => (⟨#[c]⟩ : Str)) = ⟨cs.toArray⟩ := str_ext join_signs
/-! ### subsets without doubles -/
theorem nodup_le {α : Type} [DecidableEq α] : ∀ {l m : List α}, l.Nodup → (∀ x ∈ l, x ∈ m) → l.length ≤ m.length
  | [], _, _, _ => Nat.zero_le _
  | x :: l, m, hn, hs => by
    have hx := hs x (List.mem_cons_self ..)
    have h := nodup_le (l := l) (m := m.erase x) (List.nodup_cons.mp hn).2 fun y hy => by
      refine (List.mem_erase_of_ne ?_).mpr (hs y (List.mem_cons_of_mem _ hy))
      rintro rfl
      exact (List.nodup_cons.mp hn).1 hy
    rw [List.length_erase_of_mem hx] at h
    have := List.length_pos_of_mem hx
    rw [List.length_cons]; omega
theorem nodup_mapI {α β : Type} {f : α → β} (h : ∀ a b, f a = f b → a = b) {l : List α} (hn : l.Nodup) : (l.map f).Nodup := List.pairwise_map.mpr (hn.imp fun hne e => hne (h _ _ e))
theorem any_strs {l : List Str} {x : Str} : ((l.map D.str).any fun z => D.eq z (.str x)) = decide (x ∈ l) := by
  rw [Bool.eq_iff_iff, List.any_eq_true, decide_eq_true_iff]
  constructor
  · rintro ⟨z, hz, e⟩
    obtain ⟨y, hy, rfl⟩ := List.mem_map.mp hz
    have : y = x := by simpa [D.eq] using e
    exact this ▸ hy
  · intro h
    exact ⟨.str x, List.mem_map.mpr ⟨x, h, rfl⟩, by simp [D.eq]⟩
theorem eq_strs {a w : Str} : D.eq (.str a) (.str w) = (w == a) := by
  show (a == w) = _
  by_cases h : a = w
  · subst h; rfl
  · rw [beq_eq_false_iff_ne.mpr h, beq_eq_false_iff_ne.mpr (Ne.symm h)]
theorem any2 {a b w : Str} : ([D.str a, .str b].any fun z => D.eq z (.str w)) = (w == a || w == b) := by
  rw [List.any_cons, List.any_cons, List.any_nil, Bool.or_false, eq_strs, eq_strs]
theorem any3 {a b c w : Str} : ([D.str a, .str b, .str c].any fun z => D.eq z (.str w)) = (w == a || (w == b || w == c)) := by
  rw [List.any_cons, List.any_cons, List.any_cons, List.any_nil, Bool.or_false, eq_strs, eq_strs, eq_strs]
theorem oks_strs {n : Nat} : ∀ {l : List Str}, D.oks n (l.map D.str) = true
  | [] => by cases n <;> rfl
  | x :: l => by
    show (D.ok n (.str x) && D.oks n (l.map D.str)) = true
    rw [oks_strs (l := l)]
    cases n <;> rfl
end Px

namespace Px
open PySem PySem.Spec PyProof.Rows L2
/-! ### == [], == () whatever is in the other one -/
def rEqNil (K : PySem.W.Frag) (neg : Bool) : R2 := fun x y H Q => (∃ a b xs, x = .ref a ∧ y = .ref b ∧ SqL K H a xs ∧ SqL K H b [] ∧ Q (.bl (neg.xor xs.isEmpty)) H) ∨ ∃ a b xs, x = .ref a ∧ y = .ref b ∧ SqT K H a xs ∧ SqT K H b [] ∧ Q (.bl (neg.xor xs.isEmpty)) H
section
variable {X : Cx}
theorem isTuple_of {h : Heap} {a : Addr} {its : Array Value} (t : IsTup h a its) : h.IsTuple a its := t
theorem op_eqNil (hu : X.A.units < cLine) : OpR X (compareOp .Eq) (rEqNil X.K false) := by
  intro pins s σ H x y v u Q I rx ry h
  rcases h with ⟨a, b, xs, rfl, rfl, ha, hb, q⟩ | ⟨a, b, xs, rfl, rfl, ha, hb, q⟩
  · cases rx; cases ry
    obtain ⟨its, r, p1, _⟩ := I.list ha
    obtain ⟨its2, r2, p2, _⟩ := I.list hb
    cases r2
    rw [Bool.false_xor] at q
    cases r with
    | nil => exact SeqAt.eq_listAt (e := fun _ => true) p1.isList p2.isList rfl hu (fun j h1 h2 => absurd h1 (by simp)) ⟨.bl true, H, I, rfl, q⟩
    | cons _ _ => exact SeqAt.eq_list_lengthsAt p1.isList p2.isList (by simp) hu ⟨.bl false, H, I, rfl, q⟩
  · cases rx; cases ry
    obtain ⟨its, r, p1, _⟩ := I.tuple ha
    obtain ⟨its2, r2, p2, _⟩ := I.tuple hb
    cases r2
    rw [Bool.false_xor] at q
    refine SeqAt.eq_tupleAt (e := fun _ => true) (isTuple_of p1) (isTuple_of p2) hu (fun j h1 h2 => absurd h2 (by simp)) ⟨.bl xs.isEmpty, H, I, ?_, q⟩
    cases r <;> rfl
theorem op_neNil (hu : X.A.units < cLine) : OpR X (compareOp .NotEq) (rEqNil X.K true) := by
  intro pins s σ H x y v u Q I rx ry h
  rcases h with ⟨a, b, xs, rfl, rfl, ha, hb, q⟩ | ⟨a, b, xs, rfl, rfl, ha, hb, q⟩
  · cases rx; cases ry
    obtain ⟨its, r, p1, _⟩ := I.list ha
    obtain ⟨its2, r2, p2, _⟩ := I.list hb
    cases r2
    rw [Bool.true_xor] at q
    cases r with
    | nil => exact SeqAt.RcNeAt.lists (e := fun _ => true) p1.isList p2.isList rfl hu (fun j h1 h2 => absurd h1 (by simp)) X.prog X.w _ _ ⟨.bl false, H, I, rfl, q⟩
    | cons _ _ => exact SeqAt.RcNeAt.lists_lengths p1.isList p2.isList (by simp) hu X.prog X.w _ _ ⟨.bl true, H, I, rfl, q⟩
  · cases rx; cases ry
    obtain ⟨its, r, p1, _⟩ := I.tuple ha
    obtain ⟨its2, r2, p2, _⟩ := I.tuple hb
    cases r2
    rw [Bool.true_xor] at q
    refine SeqAt.RcNeAt.tuples (e := fun _ => true) (isTuple_of p1) (isTuple_of p2) hu (fun j h1 h2 => absurd h2 (by simp)) X.prog X.w _ _ ⟨.bl (!xs.isEmpty), H, I, ?_, q⟩
    cases r <;> rfl
def dEqNil (neg : Bool) (d e : D) (O : Om) (Q : QX) : Prop := match e with
  | .lst [] => optK (lstD O d) fun xs => Q (.bl (neg.xor xs.isEmpty)) O
  | .tup [] => match d with
    | .tup xs => Q (.bl (neg.xor xs.isEmpty)) O
    | _ => False
  | _ => False
theorem rd_eqNil {K : PySem.W.Frag} {neg : Bool} : RdO2 K (rEqNil K neg) (dEqNil neg) := by
  intro al H O x y d e Q R rel rx ry h hq
  match e, h with
  | .lst [], h =>
    obtain ⟨ds, e1, h⟩ := optK.ex h
    obtain ⟨a, xs, rfl, ha, ra, la⟩ := lstD_rp rel rx e1
    obtain ⟨b, ys, rfl, hb, rb, lb⟩ := ry.lstI
    cases rb
    refine .inl ⟨a, b, xs, rfl, rfl, ha, hb, ?_⟩
    rw [show xs.isEmpty = ds.isEmpty by cases ra <;> rfl]
    exact hq _ _ _ _ _ (Stp.refl _ _) rel (.bl _) h
  | .tup [], h =>
    match d, h with
    | .tup ds, h =>
      obtain ⟨a, xs, rfl, ha, ra, la⟩ := rx.tupI
      obtain ⟨b, ys, rfl, hb, rb, lb⟩ := ry.tupI
      cases rb
      refine .inr ⟨a, b, xs, rfl, rfl, ha, hb, ?_⟩
      rw [show xs.isEmpty = ds.isEmpty by cases ra <;> rfl]
      exact hq _ _ _ _ _ (Stp.refl _ _) rel (.bl _) h
theorem c_eqNil (hr : Un0 X.A) : CO X .Eq (dEqNil false) := ⟨_, op_eqNil (by have := hr.le64; omega), rd_eqNil⟩
theorem c_neNil (hr : Un0 X.A) : CO X .NotEq (dEqNil true) := ⟨_, op_neNil (by have := hr.le64; omega), rd_eqNil⟩
end
end Px

namespace Px
open PySem PySem.Spec PyProof.Rows L2
/-! ### while -/
def xWhile (c : TTX) (body : TSX) : TSX := fun D G O => ∃ I : Nat → Gam → Om → Prop, (∃ m, I m G O) ∧ ∀ m G O, I m G O → ∃ N : Gam → Om → Prop, (∀ G' O', N G' O' → ∃ m', m' < m ∧ I m' G' O') ∧
  c G O (fun b O1 => xite b (body { D with nx := N, ct := N, bk := D.nx } G O1) (D.nx G O1)) (fun x O1 => D.ex x G O1)
theorem rd_while {K : PySem.W.Frag} {W : WX} {tc : TT} {tb : TS} {c : TTX} {body : TSX} (hc : RdT K W tc c) (hb : RdS K W tb body) : RdS K W (tWhile tc tb) (xWhile c body) := by
  intro al H σ G O D R rel env h e
  obtain ⟨I, ⟨m0, i0⟩, turn⟩ := h
  refine ⟨fun m σ' H' => ∃ al' G' O', Stp al H al' H' ∧ Rel K al' H' O' ∧ EnvR K al' H' σ' G' ∧ I m G' O', ⟨m0, al, G, O, Stp.refl _ _, rel, env, i0⟩, ?_⟩
  rintro m σ1 H1 ⟨al1, G1, O1, s1, rel1, env1, i1⟩
  obtain ⟨N, hN, t1⟩ := turn m G1 O1 i1
  refine hc al1 H1 σ1 G1 O1 _ _ _ rel1 env1 t1 (fun al2 H2 O2 b s2 rel2 q => ?_) (fun al2 H2 O2 x cls dd s2 rel2 r2 q => e.ex _ _ _ _ _ _ _ _ (s1.trans s2) rel2 (env1.mono s2) r2 q)
  cases b with
  | true =>
    refine (if_pos rfl : (if true = true then _ else _) = _) ▸ ?_
    refine ⟨fun σ' H' => ∃ al' G' O', Stp al H al' H' ∧ Rel K al' H' O' ∧ EnvR K al' H' σ' G' ∧ N G' O', ?_, ?_⟩
    · rintro σ' H' ⟨al', G', O', s', rel', env', n'⟩
      obtain ⟨m', hm, i'⟩ := hN _ _ n'
      exact ⟨m', hm, al', G', O', s', rel', env', i'⟩
    · have e1 := e.mono s1
      have e2 := e1.mono s2
      refine hb al2 H2 σ1 G1 O2 _ _ rel2 (env1.mono s2) q ⟨?_, e2.rt, e2.nx, ?_, e2.ex⟩
      · exact fun al' H' O' σ' G' s' rel' env' n' => ⟨al', G', O', (s1.trans s2).trans s', rel', env', n'⟩
      · exact fun al' H' O' σ' G' s' rel' env' n' => ⟨al', G', O', (s1.trans s2).trans s', rel', env', n'⟩
  | false =>
    refine (if_neg Bool.false_ne_true : (if false = true then _ else _) = _) ▸ ?_
    exact e.nx _ _ _ _ _ (s1.trans s2) rel2 (env1.mono s2) q
theorem psx_while {X : Cx} {W : WX} {c : Expr} {body : List Stmt} {tc : TTX} {tb : TSX} {pos : Pos} (hp : PassesOwn (model X.prog X.w) X.A X.env X.xe) (hc : PTX X W c tc) (hb : PSsX X W body tb) : PSX X W (.While c body [] pos) (xWhile tc tb) :=
  let ⟨_, p, q⟩ := hc; let ⟨_, p2, q2⟩ := hb; ⟨_, ps_while hp p p2, rd_while q q2⟩
/-- by an invariant and a measure -/
theorem xWhile_by {c : TTX} {body : TSX} {D : Ed} {G : Gam} {O : Om} (I : Nat → Gam → Om → Prop) (m : Nat) (h0 : I m G O)
    (hs : ∀ m G O, I m G O → ∀ N : Gam → Om → Prop, (∀ m' G' O', m' < m → I m' G' O' → N G' O') → c G O (fun b O1 => xite b (body { D with nx := N, ct := N, bk := D.nx } G O1) (D.nx G O1)) (fun x O1 => D.ex x G O1)) : xWhile c body D G O :=
  ⟨I, ⟨m, h0⟩, fun m G O i => ⟨fun G' O' => ∃ m', m' < m ∧ I m' G' O', fun _ _ h => h, hs m G O i _ fun m' _ _ hm hi => ⟨m', hm, hi⟩⟩⟩
/-! ### exceptions: own classes without an __init__ -/
structure OwnX (K : PySem.W.Frag) (mg : Str → Option Value) (x : Str) (C : Addr) : Prop where
  gC : mg x = some (.ref C)
  q : PySem.W.excIn K C [.type "ValueError", .type "Exception", .type "BaseException", .type "object"] "ValueError.__new__" = true
  kC : PySem.W.keepIn K (.ref C) = true
  exC : PySem.W.subIn K (.ref C) (.type "BaseException") = some true
  tyC : PySem.W.typeIn K (.ref C) = some (.type "type")
def xRaise (i : Nat) : TSX := fun D G O => D.ex ⟨i, []⟩ G O
theorem rd_raise {K : PySem.W.Frag} {W : WX} {i : Nat} : RdS K W (fun _ σ H => (fun (_ : L2.St) (H : Hp) (Q : XK) => Q (.ref (clA K i)) none H) σ H fun cls d H' => W cls d σ H') (xRaise i) := by
  intro al H σ G O D R rel env h e
  exact e.ex _ _ _ _ _ _ _ _ (Stp.refl _ _) rel env ⟨rfl, .inl ⟨rfl, rfl⟩⟩ h
theorem psx_raise {X : Cx} {W : WX} {x m : Str} {i j : Nat} {p p2 pos pos2 : Pos} (g : OwnX X.K X.mg x (clA X.K i)) (tk : Takes X W) (hc : X.calm = true := by rfl) (hg : Gl X x := by rfl) (hm : m.length ≤ sizeLine := by first | decide | (rw [sizeLine_eq]; decide +kernel)) (hdb : (x == ("__debug__" : Str)) = false := by decide) :
    PSX X W (.Raise (some (.Call (.Name x p) [.Constant (.str m) j p2] [] pos)) none pos2) (xRaise i) :=
  ⟨_, ps_raise hc tk (pmk_own PySem.F.excBase_ValueError g.q g.gC g.kC (raises_own g.exC g.tyC) hg hdb), rd_raise⟩
/-! ### split at a sign -/
def splitL (s : Nat) : List Nat → List (List Nat)
  | [] => [[]]
  | c :: r => if c = s then [] :: splitL s r else match splitL s r with
    | [] => [[c]]
    | p :: ps => (c :: p) :: ps
theorem splitL_cons {s c : Nat} {r : List Nat} : splitL s (c :: r) = if c = s then [] :: splitL s r else match splitL s r with
    | [] => [[c]]
    | p :: ps => (c :: p) :: ps := rfl
theorem splitL_ne (s : Nat) : ∀ l, splitL s l ≠ []
  | [] => fun h => nomatch h
  | c :: r => by
    unfold splitL
    split
    · exact fun h => nomatch h
    · split <;> exact fun h => nomatch h
theorem spl_splitL (s : Nat) : ∀ (l acc : List Nat), TL.spl [s] 0 acc l = match splitL s l with | [] => [acc] | p :: ps => (acc ++ p) :: ps
  | [], acc => by show [acc] = [acc ++ []]; rw [List.append_nil]
  | c :: r, acc => by
    show (if TL.pre [s] (c :: r) = true then acc :: TL.spl [s] 0 [] r else TL.spl [s] 0 (acc ++ [c]) r) = _
    have e : TL.pre [s] (c :: r) = (c == s) := by
      show ((c :: r).take 1 == [s]) = _
      show ([c] == [s]) = _
      simp
    rw [e, spl_splitL s r, spl_splitL s r]
    have hn := splitL_ne s r
    rw [splitL_cons]
    by_cases h : c = s
    · subst h
      rw [if_pos (beq_self_eq_true c), if_pos rfl]
      cases hx : splitL c r with
      | nil => exact absurd hx hn
      | cons p ps => simp
    · rw [if_neg (by simpa using h), if_neg h]
      cases hx : splitL s r with
      | nil => exact absurd hx hn
      | cons p ps => simp
theorem splitL_mem (s : Nat) : ∀ (l : List Nat) p, p ∈ splitL s l → (∀ c ∈ p, c ∈ l ∧ c ≠ s) ∧ p.length ≤ l.length
  | [], p, h => by rw [List.mem_singleton.mp h]; exact ⟨(fun c hc => nomatch hc), Nat.le_refl _⟩
  | c :: r, p, h => by
    unfold splitL at h
    split at h
    · rcases List.mem_cons.mp h with h | h
      · rw [h]; exact ⟨(fun c hc => nomatch hc), Nat.zero_le _⟩
      · obtain ⟨h1, h2⟩ := splitL_mem s r p h
        exact ⟨fun d hd => ⟨List.mem_cons_of_mem _ (h1 d hd).1, (h1 d hd).2⟩, by rw [List.length_cons]; omega⟩
    · rename_i hc
      split at h
      · rename_i hx; exact absurd hx (splitL_ne s r)
      · rename_i q qs hx
        rcases List.mem_cons.mp h with h | h
        · obtain ⟨h1, h2⟩ := splitL_mem s r q (by rw [hx]; exact List.mem_cons_self ..)
          rw [h]
          refine ⟨fun d hd => ?_, by rw [List.length_cons, List.length_cons]; omega⟩
          rcases List.mem_cons.mp hd with hd | hd
          · rw [hd]; exact ⟨List.mem_cons_self .., hc⟩
          · exact ⟨List.mem_cons_of_mem _ (h1 d hd).1, (h1 d hd).2⟩
        · obtain ⟨h1, h2⟩ := splitL_mem s r p (by rw [hx]; exact List.mem_cons_of_mem _ h)
          exact ⟨fun d hd => ⟨List.mem_cons_of_mem _ (h1 d hd).1, (h1 d hd).2⟩, by rw [List.length_cons]; omega⟩
theorem splitL_len (s : Nat) : ∀ l : List Nat, (splitL s l).length ≤ l.length + 1
  | [] => Nat.le_refl _
  | c :: r => by
    have h := splitL_len s r
    unfold splitL
    split
    · rw [List.length_cons, List.length_cons]; omega
    · split
      · rw [List.length_cons]; simp
      · rename_i hx; rw [hx] at h; rw [List.length_cons] at h ⊢; rw [List.length_cons]; omega
theorem split_eq {a : Str} {s : Nat} (hs : s < 256) : Txt.split a ⟨#[s]⟩ = (splitL s a.cps.toList).map fun l => (⟨l.toArray⟩ : Str) := by
  refine TL.map_tl_inj ?_
  have hk : (⟨#[s]⟩ : Str).cps.all (· < 256) = true := by
    show (#[s] : Array Nat).all _ = true
    simp [hs]
  rw [TL.split_spl _ _ (List.cons_ne_nil s []) (TL.kind_ok hk), List.map_map]
  show TL.spl [s] 0 [] a.cps.toList = _
  rw [spl_splitL]
  cases hx : splitL s a.cps.toList with
  | nil => exact absurd hx (splitL_ne _ _)
  | cons p ps =>
    show ([] ++ p) :: ps = _
    rw [List.nil_append]
    symm
    rw [show (TL.tl ∘ fun l : List Nat => (⟨l.toArray⟩ : Str)) = id from rfl, List.map_id]
def sls (s : Nat) (x : Str) : List Str := (splitL s x.cps.toList).map fun l => (⟨l.toArray⟩ : Str)
def dSplit (d : D) (ds : List D) (O : Om) (Q : QX) : Prop := match d, ds with
  | .str a, [.str b] => sgnK b fun s => s < 256 ∧ a.length ≤ 1000000 ∧ Q (.lst ((sls s a).map .str)) O
  | _, _ => False
theorem strsR {K : PySem.W.Frag} {al : AL} {H : Hp} : ∀ {ys : List Str}, (∀ y ∈ ys, SOk y) → RpA K al H (ys.map V.str) (ys.map D.str)
  | [], _ => .nil
  | y :: ys, h => .cons (.str _ (h y (List.mem_cons_self ..))) (strsR fun z hz => h z (List.mem_cons_of_mem _ hz))
theorem sok_sls {s : Nat} {x : Str} (h : SOk x) : ∀ y ∈ sls s x, SOk y := fun y hy => by
  obtain ⟨l, hl, rfl⟩ := List.mem_map.mp hy
  obtain ⟨h1, h2⟩ := splitL_mem s _ l hl
  exact sok_sub h h2 fun c hc => (h1 c hc).1
theorem m_split {X : Cx} : MO X "str.split" dSplit := ⟨_, mt_split, fun al H O x d xs ds Q R rel rx r h hq => by
  match d, ds, h with
  | .str a, [.str b], h =>
    obtain ⟨s, rfl, hs, hl, h⟩ := sgnK.ex h
    obtain ⟨v, rfl, rv⟩ := r.one
    cases rx with
    | str _ ha =>
      cases rv
      have hn : (sls s a).length ≤ sizeLine := by
        have := splitL_len s a.cps.toList
        unfold sls
        rw [List.length_map]
        have e2 : a.cps.toList.length = a.cps.size := Array.length_toList
        have e : a.length = a.cps.size := rfl
        rw [sizeLine_eq]; omega
      refine ⟨a, _, rfl, rfl, rfl, by rw [sizeLine_eq]; omega, ?_⟩
      rw [split_eq hs]
      intro p hp
      exact hq _ _ _ _ _ (stp_new rel.live hp) (rel.new hp) (new_lst rel hp (strsR (sok_sls ha)) (by rw [List.length_map]; exact hn)) h⟩
end Px

namespace Px
open PySem PySem.Spec PyProof.Rows L2
/-! ### the caught exception, tracked -/
section
variable {X : Cx} {pins : List (Addr × Obj)} {σ : L2.St} {H : Hp} {s : Shared}
theorem exnO_ok {P : Program} {w : World} {H : Hp} {h : Heap} {a C : Addr} {d : Option Addr} {vs : Array Value} {sl : Array (Option Value)} (e : h.get? a = some { cls := .ref C, dict := d, data := .fields vs, slots := sl }) : ObjOk P w H h a (exnO a C d) :=
  ⟨⟨vs, sl, e⟩, ⟨_, e⟩, fun _ _ ⟨vs, sl, q⟩ k => ⟨vs, sl, k _ q⟩⟩
theorem exnO_at (I : Inv X pins σ H s) {a C : Addr} {d : Option Addr} (e : H a = some (exnO a C d)) : ∃ (vs : Array Value) (sl : Array (Option Value)), s.heap.get? a = some { cls := .ref C, dict := d, data := .fields vs, slots := sl } :=
  (show ObjOk X.prog X.w H s.heap a (exnO a C d) from I.hok a _ e).1
theorem inv_track (I : Inv X pins σ H s) {a C : Addr} {d : Option Addr} {oe : Obj} {vs : Array Value} (he : s.heap.get? a = some oe) (hz : Zc (.ref C) d oe) (hd : oe.data = .fields vs) (na : H a = none) (n0 : X.s_0.heap.get? a = none) (nL : a ≠ X.env.locals)
    (hp : ∀ p ∈ X.pn ++ pins, p.1 ≠ a) : Inv X pins σ (upd H a (exnO a C d)) s := by
  obtain ⟨oc, od, oda, osl⟩ := oe
  obtain ⟨h1, h2⟩ := hz
  dsimp only at h1 h2 hd
  subst h1 h2 hd
  have n0' : ∀ {b o}, X.s_0.heap.get? b = some o → b ≠ a := fun {b o} e z => by subst z; rw [n0] at e; cases e
  have nH : ∀ {b o}, H b = some o → b ≠ a := fun {b o} e z => by subst z; rw [na] at e; cases e
  refine ⟨I.ok, I.os, I.bare, ⟨I.base.keep, I.base.slot, fun b o e n hx => ?_, I.base.there, fun b xs e => ?_, fun b o u e => ?_, fun b ps e => ?_⟩, I.loc, I.cell, ?_, fun x c e => ?_, fun p h => ?_, fun b o e => ?_, I.len⟩
  · rw [upd_ne (n0' e)]; exact I.base.free b o e n hx
  · have z := I.base.tups b xs e
    rw [upd_ne (nH z)]; exact z
  · have z := I.base.frzs b o u e
    rw [upd_ne (nH z)]; exact z
  · obtain ⟨m, z⟩ := I.base.tbls b ps e
    exact ⟨m, by rw [upd_ne (nH z)]; exact z⟩
  · rw [upd_ne (Ne.symm nL)]; exact I.free
  · rw [upd_ne (fun z => ?_)]
    · exact I.freeC x c e
    · subst z
      obtain ⟨v, hc⟩ := I.cell x c e
      obtain ⟨o', e2, e3⟩ := hc
      have e4 := he.symm.trans e2
      cases e4
      cases e3
  · obtain ⟨e1, e2, e3⟩ := I.pin p h
    exact ⟨e1, by rw [upd_ne (hp p h)]; exact e2, e3⟩
  · by_cases z : b = a
    · subst z; rw [upd_same] at e; cases e; exact exnO_ok he
    · rw [upd_ne z] at e
      exact (I.hok b o e).stay (fun c u _ q => q) (fun c q => by rw [upd_ne (nH q)]; exact q) fun c xs q => by rw [upd_ne (nH q)]; exact q
end
/-- what the clause 'except x as n' wishes of an exception of the body: it is tracked from there on -/
def wAsT (K : PySem.W.Frag) (c : Value) (i : Nat) (ts : TS) (Wout : WX) (D : Ends) : WX := fun cls d σ H =>
  ∃ C b, cls = .ref C ∧ PySem.W.exmOne K cls c = some b ∧ (b = true → ∀ a, H a = none → ts { nx := fun σ' H' => D.nx (σ'.set i none) H', rt := D.rt, bk := fun σ' H' => D.bk (σ'.set i none) H', ct := fun σ' H' => D.ct (σ'.set i none) H' } (σ.set i (some (.ref a))) (upd H a (exnO a C d))) ∧
    (b = false → Wout cls d σ H)
section
variable {X : Cx} {x n : Str} {c : Value} {i : Nat} {body suite : List Stmt} {b₀ : Stmt} {np pos pos' : Pos} {tb : WX → TS} {ts : TS} {Wout : WX}
theorem ps_try_asT (hs : X.stack = X.env :: X.outer) (hf : X.env.frame = some X.env.locals) (hex : X.ex = []) (hN : X.N.Nodup) (hi : X.N[i]? = some n) (hln : X.env.kindOf n = some .local) (hc : Names X x c) (tk : Takes X Wout)
    (hb : ∀ (W : WX) (pn : List (Addr × Obj)) (xe : Value → Shared → Prop), Takes (X.tr pn xe) W → PassesOwn (model X.prog X.w) X.A X.env xe → PSs (X.tr pn xe) body (tb W))
    (hsu : ∀ (a : Addr) (pn : List (Addr × Obj)), PSs (X.suite a pn) (b₀ :: suite) ts) :
    PS X (.Try body [.ExceptHandler (some (.Name x np)) (some n) (b₀ :: suite) pos'] [] [] pos) (fun D σ H => tb (wAsT X.K c i ts Wout D) D σ H) := by
  refine ⟨fun pins s σ H D I h => ?_⟩
  have ok := I.ok
  have hfr : X.A.frames = some (X.env :: X.outer) := by rw [ok.frames, hs]
  have hloc : Loc X.env.scope n := .inl hln
  refine wpAny_Try_except (wpAny_mono ((hb (wAsT X.K c i ts Wout D) (X.pn ++ pins) (fun e s₁ => wpAny (model X.prog X.w) X.A (noteFrame e X.env) (fun _ s₂ => wpAny (model X.prog X.w) X.A (setFlight e none) (fun _ s₃ =>
    wpAny (model X.prog X.w) X.A (handleBy e X.env [.ExceptHandler (some (.Name x np)) (some n) (b₀ :: suite) pos']) (SP X pins D) X.xe s₃) X.xe s₂) X.xe s₁) (fun u s' xx => ?_) PassesOwn.looking).run [] s σ H D (I.toTry _) h) (fun f s1 hsp => ?_) (fun e s1 he => he))
  · obtain ⟨a, B, sI, pins', σ', H', cls, d, rfl, J', nb, up, sky, na, os, ag, C, b, rfl, hb1, hyes, hno⟩ := xx
    have J : Inv X pins σ' H' sI := J'.ofTry ok
    have sky' : Sky B (X.env :: X.outer) a (Zc (.ref C) d) X.env.locals s'.heap := by rw [← hs]; exact sky
    have nB : B.get? a = none := by
      rcases sky' with z | z | z
      · exact z.2.1
      · exact z.2.1
      · exact z.2.1
    show wpAny _ X.A (noteFrame (.ref a) X.env) _ _ _
    refine Sky.land Zc.steady hfr hf sky' fun h3 fl3 up3 => ?_
    have J3 : Inv X pins σ' H' { s' with heap := h3 } := J.landed nb fl3.1 (up.trans up3) os ag
    obtain ⟨oe3, vs3, he3, hz3, hd3⟩ := fl3.there
    have nfr : a ∉ frs (X.env :: X.outer) := fun hm => by
      obtain ⟨_, o', e', hnf⟩ := fl3.2.2.1.mem hm
      rw [he3] at e'; cases e'
      exact hnf _ hd3
    have nL : a ≠ X.env.locals := fun z => nfr (List.mem_filterMap.mpr ⟨X.env, List.mem_cons_self, by rw [hf, z]⟩)
    have nF : a ∉ X.fs := fun hm => by
      obtain ⟨e, he, q⟩ := List.mem_filterMap.mp hm
      exact nfr (List.mem_filterMap.mpr ⟨e, List.mem_cons_of_mem _ he, q⟩)
    have n1 : sI.heap.get? a = none := by
      cases q : sI.heap.get? a with
      | none => rfl
      | some o => rw [nb a o q (by rw [hs]; exact nfr)] at nB; cases nB
    have n0 : X.s_0.heap.get? a = none := by
      cases q : X.s_0.heap.get? a with
      | none => rfl
      | some o =>
        obtain ⟨o', q'⟩ := J.base.there a o q (by rw [hex]; simp)
        rw [n1] at q'; cases q'
    have np' : ∀ p ∈ X.pn ++ pins, p.1 ≠ a := fun p hp z => by
      have e := (J.pin p hp).1
      rw [z, n1] at e; cases e
    have S3 := J3.suite he3 hd3 na nL nF
    refine wpAny_handleBy_cons (codeAny_handlers_test ?_) (by intro q; cases q)
    have LT : PySem.W.Looks (model X.prog X.w) h3 (typeOf (.ref a)) (.ref C) := fun A Q E s k q => wpAny_typeOf_ref (k _ _ he3) (by rw [hz3.1]; exact q)
    have LM := PySem.W.exm_one (M := model X.prog X.w) (J3.kIn) LT hb1
    have test : ∀ {Q : Value → Shared → Prop} {E : Value → Shared → Prop}, Q c { s' with heap := h3 } → wpAny (model X.prog X.w) (X.A.mark (some (.ref a))) (eval (.Name x np) X.env) Q E { s' with heap := h3 } := fun {Q E} q => by
      obtain ⟨hg, hdbg, hm | ⟨hm, hv, hnn⟩⟩ := hc
      · exact ld_glob (X := X.suite a ((a, oe3) :: (X.pn ++ pins))) S3 hg hm q hdbg
      · exact ld_blt (X := X.suite a ((a, oe3) :: (X.pn ++ pins))) S3 hg hm hv q hnn hdbg
    refine test (LM.here ?_)
    cases b with
    | true =>
      refine codeAny_handlers_suite_as ?_
      refine HandSPX.lands_againZ fl3 fun h4 fl4 up4 => ?_
      have J4 : Inv X pins σ' H' { s' with heap := h4 } := J.landed nb fl4.1 ((up.trans up3).trans up4) os ag
      obtain ⟨oe4, vs4, he4, hz4, hd4⟩ := fl4.there
      have J5 := inv_track J4 he4 hz4 hd4 na n0 nL np'
      have S5 : Inv (X.suite a (X.pn ++ pins)) [] σ' (upd H' a (exnO a C d)) { s' with heap := h4 } :=
        ⟨J5.ok.suite _ _, J5.os, J5.bare, J5.base, J5.loc, J5.cell, J5.free, J5.freeC, fun p hp => J5.pin p (by rw [List.append_nil] at hp; exact hp), J5.hok, J5.len⟩
      refine store_ok (X := X.suite a (X.pn ++ pins)) (v := .ref a) S5 hN hi hloc rfl (fun s5 S6 => ?_) (.inr hln)
      refine wpAny_mono ((hsu a (X.pn ++ pins)).run [] s5 _ _ _ S6 (hyes rfl a na)) (fun f s6 hsp => ?_) (fun _ _ z => False.elim z)
      have end_ : ∀ {σ6 : L2.St} {H6 : Hp} {Q : Shared → Prop}, Inv (X.suite a (X.pn ++ pins)) [] σ6 H6 s6 → (∀ s7, Inv X pins (σ6.set i none) H6 s7 → Q s7) →
          wpAny (model X.prog X.w) X.A (do bindName X.env n .none; unbindBehindTheSuite X.env n pos') (fun _ s7 => Q s7) X.xe s6 := fun {σ6 H6 Q} S hq => by
        have U : Inv X pins σ6 H6 s6 := ⟨ok, S.os, S.bare, S.base, S.loc, S.cell, S.free, S.freeC, fun p hp => S.pin p (List.mem_append_left _ hp), S.hok, S.len⟩
        exact gone_ok U hN hi hln hq
      cases f with
      | next =>
        obtain ⟨σ6, H6, S6, q6⟩ := hsp
        exact end_ S6 fun s7 J7 => ⟨_, _, J7, q6⟩
      | brk =>
        obtain ⟨σ6, H6, S6, q6⟩ := hsp
        exact end_ S6 fun s7 J7 => ⟨_, _, J7, q6⟩
      | cont =>
        obtain ⟨σ6, H6, S6, q6⟩ := hsp
        exact end_ S6 fun s7 J7 => ⟨_, _, J7, q6⟩
      | ret u =>
        obtain ⟨v6, σ6, H6, S6, r6, q6⟩ := hsp
        exact end_ S6 fun s7 J7 => ⟨_, _, _, J7, r6, q6⟩
    | false =>
      show wpAny _ X.A (handleBy (.ref a) X.env []) _ _ _
      refine wpAny_handleBy_nil ?_
      obtain ⟨k1, k2, k3, oe, vs, T, oT, ts', he, hz, hd, h1, hr⟩ := id fl3
      unfold PySem.passOn
      refine wpAny_bind (wpAny_field he hd h1 ?_)
      rw [if_neg (show ¬ ((Value.ref T == Value.none) = true) from by simp)]
      have fin : wpAny (model X.prog X.w) X.A (setFlight (.ref a) X.env.frame) (fun _ s4 => wpAny (model X.prog X.w) X.A (throw (.ref a) : Sem Flow) (SP X pins D) X.xe s4) X.xe { s' with heap := h3 } := by
        rw [hf]
        refine HandSPX.setFlight_upZ fl3 fun h4 hh4 up4 => wpAny_throw (tk _ _ ?_)
        exact ⟨a, B, sI, pins, σ', H', _, d, rfl, J, nb, (up.trans up3).trans up4, .inr (.inr (by rw [hs]; exact hh4)), na, os, ag, hno rfl⟩
      first
        | exact wpAny_bind (wpAny_pure (wpAny_bind fin))
        | exact wpAny_bind fin
  · cases f with
    | next =>
      obtain ⟨σ', H', J', q⟩ := hsp
      exact wpAny_execs_nil ⟨σ', H', J'.ofTry ok, q⟩
    | brk =>
      obtain ⟨σ', H', J', q⟩ := hsp
      exact ⟨σ', H', J'.ofTry ok, q⟩
    | cont =>
      obtain ⟨σ', H', J', q⟩ := hsp
      exact ⟨σ', H', J'.ofTry ok, q⟩
    | ret u =>
      obtain ⟨v, σ', H', J', r, q⟩ := hsp
      exact ⟨v, σ', H', J'.ofTry ok, r, q⟩
end
/-! ### the readings of an exception -/
section
variable {prog : Program} {w : World} {A : Around} {E : Value → Shared → Prop} {s : Shared} {K : PySem.W.Frag} {x C : Addr} {ox : Obj} {od : Option Obj}
theorem find_dataO {name : Str} {a g : Value} (hc : (PySem.W.clsIn K C).isSome = true) (ha : PySem.W.findIn K (.ref C) name = some (some a)) (hg : PySem.W.specialIn K a "__get__" = some (some g)) (ht : PySem.W.takesIn K a = some true) : PySem.W.findObj K C od name = some (.bind g a) := by
  obtain ⟨cd, hc⟩ := Option.isSome_iff_exists.mp hc
  unfold PySem.W.findObj
  rw [hc, Option.bind_some, ha, Option.bind_some]
  simp [hg, ht]
theorem cls_asked {Q : Option Value → Shared → Prop} (T : L2.ExcC K C) (X : K.In s.heap) (I : PySem.W.InstAt s.heap x ox C od) (h : Q (some (.ref C)) { s with toks := s.toks + 1 }) : wpAny (model prog w) A (getAttr? (.ref x) "__class__") Q E s := by
  have hf : PySem.W.findObj K C od "__class__" = some (.bind (.builtin "getset_descriptor.__get__") (.builtin "object.__class__")) :=
    find_dataO (by obtain ⟨cd, hc, _⟩ := PySem.W.any_some T.hd; rw [hc]; rfl) T.ha T.hn T.ht
  obtain ⟨hp, g, d, t, os⟩ := s
  have L0 := I.type (M := model prog w)
  have L1 := PySem.W.looks_findIn (M := model prog w) X T.hg
  have L2' := PySem.W.looks_findIn (M := model prog w) X T.hk
  have L3 := PySem.W.looks_find (M := model prog w) X I hf
  have sub : PySem.W.Looks (model prog w) hp (isInstance (.ref x) (.type "BaseException")) true := L0.andThen (PySem.W.looks_subIn X T.hs)
  have hx2 : (Value.builtin "BaseException.__getattribute__" == Value.builtin "object.__getattribute__") = false := by decide +kernel
  have hx1 : (onTheHeap (Value.ref C) && Value.builtin "BaseException.__getattribute__" == Value.builtin "object.__getattribute__") = false := by rw [hx2]; rfl
  unfold getAttr? getAttrBy? getAttrBy
  refine wpAny_bind (wpAny_mkText (wpAny_bind (wpAny_attempt (wpAny_holding (wpAny_bind (L0.at (wpAny_bind (L1.at ?_))))))))
  show wpAny _ _ (if (onTheHeap (Value.ref C) && Value.builtin "BaseException.__getattribute__" == Value.builtin "object.__getattribute__") = true then _ else _) _ _ _
  rw [hx1, if_neg Bool.false_ne_true]
  unfold getAttrByItsOwn hookBefore
  refine wpAny_bind ?_
  rw [if_pos (show onTheHeap (Value.ref C) = true from rfl)]
  refine L2'.at (wpAny_bind (wpAny_attempt (wpAny_holding ?_)))
  unfold callGetattribute
  rw [show (false && onTheHeap (Value.builtin "BaseException.__getattribute__")) = false from rfl, if_neg Bool.false_ne_true]
  unfold boundAndCalled
  rw [PySem.F.excAttr_ValueError.ga.bind (.ref x)]
  refine wpAny_bind (wpAny_pure ?_)
  show wpAny _ _ (call (.builtin "BaseException.__getattribute__") [.ref x, .str "__class__" t]) _ _ _
  refine wpAny_call (codeAny_call_builtin PySem.F.excAttr_ValueError.ga.plain PySem.F.entry_bexc_ga ?_)
  refine @PySem.W.check_slot (model prog w) _ _ ⟨hp, g, d, t + 1, os⟩ "BaseException.__getattribute__" "BaseException" "__getattribute__" (.ref x) [.str "__class__" t] [] _ (by decide +kernel) (by decide +kernel) sub (PySem.F.args_bexc_ga (.ref x) (.str "__class__" t)) ?_
  unfold Builtin.«object.__getattribute__»
  refine wpAny_bind (wpAny_of_eq (a := ((Value.ref x : Value), [Value.str "__class__" t])) (by first | rfl | (simp only [slotArgs]; rfl)) ?_)
  refine wpAny_bind (wpAny_pure (wpAny_bind (L0.at (wpAny_bind (L3.at ?_)))))
  show wpAny _ _ (holding [Value.builtin "object.__class__"] (call (.builtin "getset_descriptor.__get__") [.builtin "object.__class__", .ref x, .ref C]) >>= ret) _ _ _
  refine wpAny_bind (wpAny_holding (wpAny_call (PySem.W.class_get (s := ⟨hp, g, d, t + 1, os⟩) (ox := ox) (od := od) X I T.hm ?_)))
  refine wpAny_pure ?_
  show wpAny _ _ (handedOut (.ref C)) _ _ _
  rw [PySem.W.handedOut_of (v := .ref C) rfl]
  first
    | exact wpAny_pure (wpAny_pure h)
    | exact wpAny_pure h
    | exact wpAny_pure (wpAny_bind (wpAny_pure (wpAny_pure h)))
theorem kitx_exn (T : L2.ExcC K C) : PySem.W.KitX K (.ref x) (.ref C) (fun h => PySem.W.InstAt h x ox C od) where
  ty := fun _ _ _ I => I.type
  it := fun _ _ X _ => by
    obtain ⟨cd, hc, _⟩ := PySem.W.any_some T.hd
    unfold PySem.W.clsIn at hc
    split at hc
    · rename_i ho
      intro A' Q' E' s' k q
      unfold isType loadHead
      exact wpAny_bind (wpAny_loadPart (k _ _ (X _ _ ho)) (wpAny_pure q))
    · cases hc
  ne := fun h tp dd its n sl X htp => (PySem.W.handS_kitx_exc (x := x) (ox := ox) T.hg T.hk T.hs T.hd T.ha T.hn T.ht T.hm).ne h tp dd its n sl X htp
  ca := fun X I k => cls_asked T X I k
end
/-- its dict, where it has one -/
def DictAt (H : Hp) (d : Option Addr) : Prop := d = none ∨ ∃ dd vs, d = some dd ∧ H dd = some (.xd vs)
theorem XFs.dict {K : PySem.W.Frag} {al : AL} {H : Hp} {d : Option Addr} {i : Nat} {fs : List D} (h : XFs K al H d i fs) : DictAt H d := by
  rcases h with ⟨_, h⟩ | ⟨dd, vs, e, _, h, _⟩
  · exact .inl h
  · exact .inr ⟨dd, vs, e, h⟩
section
variable {X : Cx} {pins : List (Addr × Obj)} {σ : L2.St} {H : Hp} {s : Shared}
theorem exn_inst (I : Inv X pins σ H s) {a C : Addr} {d : Option Addr} (e : H a = some (exnO a C d)) (hd : DictAt H d) : ∃ ox od, PySem.W.InstAt s.heap a ox C od := by
  obtain ⟨vs, sl, h1⟩ := exnO_at I e
  rcases hd with rfl | ⟨dd, fs, rfl, h2⟩
  · exact ⟨_, none, h1, rfl, rfl, trivial⟩
  · obtain ⟨mA, hns, hr⟩ := (show ObjOk X.prog X.w H s.heap dd (.xd fs) from I.hok dd _ h2)
    obtain ⟨od, ho, _⟩ := lookIn_ns hns
    exact ⟨_, some od, h1, rfl, rfl, ho⟩
def rIsX (K : PySem.W.Frag) : List V → Hp → VK → Prop := fun xs H Q => ∃ (a C : Addr) (d : Option Addr) (c : V) (b : Bool), xs = [.ref a, c] ∧ H a = some (exnO a C d) ∧ DictAt H d ∧ L2.ExcC K C ∧
  ((∃ cv, ClsV c cv ∧ PySem.W.kitOne K (.ref C) cv = some b) ∨ (∃ tp cs us, c = .ref tp ∧ H tp = some (.tup cs) ∧ Paired ClsV cs us ∧ PySem.W.kitAny K (.ref C) us = some b)) ∧ Q (.bl b) H
theorem call_isX : CallR X (.builtin "isinstance") (rIsX X.K) := by
  intro pins s σ H xs us Q I r h
  obtain ⟨a, C, d, c, b, rfl, ea, hd, T, hk, q⟩ := h
  obtain ⟨u1, u2, rfl, r1, r2⟩ := vals2 r
  cases (show u1 = Value.ref a from r1)
  obtain ⟨ox, od, J⟩ := exn_inst I ea hd
  rcases hk with ⟨cv, k, e⟩ | ⟨tp, cs, ws, rfl, hT, k, e⟩
  · have e2 := k.eq r2
    subst e2
    exact PySem.W.kia_one (kitx_exn T) I.kIn J e (fun z => nomatch z) fun tk => ⟨.bl b, H, I.tok tk, rfl, q⟩
  · cases (show u2 = Value.ref tp from r2)
    obtain ⟨_, its, rv, o, h1, h2, n, h3⟩ := (show ObjOk X.prog X.w H s.heap tp (.tup cs) from I.hok tp _ hT)
    have e3 := ClsV.all k rv
    subst e3
    obtain ⟨oc, od', dt, sl⟩ := o
    simp only at h2 h3
    subst h2 h3
    exact PySem.W.kia_tup (kitx_exn T) I.kIn J h1 e (fun z => nomatch z) fun tk => ⟨.bl b, H, I.tok tk, rfl, q⟩
/-- e.f -/
def tXfT (K : PySem.W.Frag) (f : Str) (te : TE) : TE := fun σ H Q => te σ H fun x H1 => ∃ (a C dd : Addr) (fs : List (Str × V)) (v : V), x = .ref a ∧ H1 a = some (exnO a C (some dd)) ∧ L2.ExcC K C ∧ PySem.W.findIn K (.ref C) f = some none ∧ H1 dd = some (.xd fs) ∧ fs.lookup f = some v ∧ Q v H1
theorem pe_xfT {e : Expr} {te : TE} {pos : Pos} {n : Str} (he : PE X e te) (hb : attributeBase e n X.env (eval e X.env) = eval e X.env := by rfl) : PE X (.Attribute e n pos) (tXfT X.K n te) := by
  refine ⟨fun pins s σ H Q I h => ?_⟩
  refine attr_of hb (thn (he.run pins s σ H _ I h) fun u s1 hh => ?_)
  obtain ⟨x, H1, I1, rx, a, C, dd, fs, v, ex, ea, T, hno, ed, l, q⟩ := hh
  subst ex
  obtain rfl : u = Value.ref a := rx
  obtain ⟨vs, sl, h1⟩ := exnO_at I1 ea
  obtain ⟨mA, hns, hr⟩ := (show ObjOk X.prog X.w H1 s1.heap dd (.xd fs) from I1.hok dd _ ed)
  obtain ⟨od, ho, hl⟩ := lookIn_ns hns
  obtain ⟨u, hu, ru⟩ := RelO.some_of (v := v) (o := mA n) (by rw [← l]; exact hr n)
  have J : PySem.W.InstAt s1.heap a _ C (some od) := ⟨h1, rfl, rfl, ho⟩
  exact HandSPX.exc_get I1.kIn J T.hg T.hk T.hs (PySem.W.findObj_own T.hd hno rfl (by rw [hl, hu])) (handed_of ru) ⟨v, H1, I1.tok _, ru, q⟩
end
/-! ### the classes of this program's errors -/
def subB (i j : Nat) : Bool := j == 0 || i == j
structure XF (K : PySem.W.Frag) (mg : Str → Option Value) (ks : List Nat) : Prop where
  nm : ∀ k, ks.contains k = true → mg (clsN k) = some (.ref (clA K k))
  kp : ∀ k, ks.contains k = true → PySem.W.keepIn K (.ref (clA K k)) = true
  ec : ∀ k, ks.contains k = true → L2.ExcC K (clA K k)
  ty : ∀ k, ks.contains k = true → PySem.W.typeIn K (.ref (clA K k)) = some (.type "type")
  sb : ∀ i j, ks.contains i = true → ks.contains j = true → PySem.W.subIn K (.ref (clA K i)) (.ref (clA K j)) = some (subB i j)
  sv : ∀ i, ks.contains i = true → PySem.W.subIn K (.ref (clA K i)) (.type "ValueError") = some true
  fl : ∀ i, ks.contains i = true → PySem.W.findIn K (.ref (clA K i)) (fldN i) = some none
section
variable {K : PySem.W.Frag} {mg : Str → Option Value} {ks : List Nat}
theorem subB_refl (i : Nat) : subB i i = true := by unfold subB; simp
theorem XF.kit (X : XF K mg ks) {i j : Nat} (hi : ks.contains i = true) (hj : ks.contains j = true) : PySem.W.kitOne K (.ref (clA K i)) (.ref (clA K j)) = some (subB i j) := by
  have e := X.sb i j hi hj
  unfold PySem.W.kitOne
  split
  · rename_i z
    have z' : clA K i = clA K j := Value.ref.inj (beq_iff_eq.mp z)
    have e2 := X.sb i i hi hi
    rw [z'] at e e2
    rw [e2, subB_refl] at e
    exact e
  · obtain ⟨cd, hc, _⟩ := PySem.W.any_some (X.ec j hj).hd
    show (if ((PySem.W.clsIn K (clA K j)).isSome && PySem.W.typeIn K (.ref (clA K j)) == some (.type "type")) = true then PySem.W.subIn K (.ref (clA K i)) (.ref (clA K j)) else none) = _
    rw [hc, X.ty j hj, if_pos (by rfl), e]
theorem XF.kitV (X : XF K mg ks) {i : Nat} (hi : ks.contains i = true) : PySem.W.kitOne K (.ref (clA K i)) (.type "ValueError") = some true := by
  unfold PySem.W.kitOne
  rw [if_neg (show ¬ ((Value.ref (clA K i) == Value.type "ValueError") = true) from fun z => nomatch (beq_iff_eq.mp z))]
  show (if PySem.W.kitMeta "ValueError" = true then PySem.W.subIn K (.ref (clA K i)) (.type "ValueError") else none) = _
  rw [if_pos (by decide +kernel), X.sv i hi]
theorem XF.kitA (X : XF K mg ks) {i : Nat} (hi : ks.contains i = true) : ∀ {js : List Nat}, js.all (fun j => ks.contains j) = true → PySem.W.kitAny K (.ref (clA K i)) (js.map fun j => .ref (clA K j)) = some (js.any (subB i))
  | [], _ => rfl
  | j :: js, h => by
    rw [List.all_cons, Bool.and_eq_true] at h
    show (match PySem.W.kitOne K (.ref (clA K i)) (.ref (clA K j)) with | some true => some true | some false => PySem.W.kitAny K (.ref (clA K i)) (js.map fun j => .ref (clA K j)) | none => none) = _
    rw [X.kit hi h.1, X.kitA hi h.2, List.any_cons]
    cases subB i j <;> rfl
theorem XF.exm (X : XF K mg ks) {i j : Nat} (hi : ks.contains i = true) (hj : ks.contains j = true) : PySem.W.exmOne K (.ref (clA K i)) (.ref (clA K j)) = some (subB i j) :=
  PySem.W.exm_ref (X.ec j hj).hs (X.ec j hj).hd (X.ty j hj) (X.sb i j hi hj)
end
/-! ### isinstance, at the level of data -/
def xK (d : D) : TX := fun _ O Q _ => Q d O
def exnK (ks : List Nat) (c : Cell) (Q : Nat → List D → Prop) : Prop := match c with
  | .exn i ds => xite (ks.contains i) (Q i ds) False
  | _ => False
theorem exnK.ex {ks : List Nat} {o : Option Cell} {Q : Nat → List D → Prop} (h : optK o fun c => exnK ks c Q) : ∃ i ds, o = some (.exn i ds) ∧ ks.contains i = true ∧ Q i ds := by
  obtain ⟨c, e, h⟩ := h.ex
  cases c with
  | exn i ds =>
    have h : xite (ks.contains i) (Q i ds) False := h
    cases hk : ks.contains i with
    | true => rw [hk] at h; exact ⟨i, ds, e, hk, h⟩
    | false => rw [hk] at h; exact (show False from h).elim
  | _ => exact (show False from h).elim
def oneK (ds : List D) (Q : D → Prop) : Prop := match ds with
  | [v] => Q v
  | _ => False
def xIsE (ks : List Nat) (f : Nat → Bool) (a : TX) : TX := fun G O Q E => a G O (fun d O1 => ownK d fun k => optK O1[k]? fun c => exnK ks c fun i _ => Q (.bl (f i)) O1) E
def xFldE (ks : List Nat) (n : Str) (a : TX) : TX := fun G O Q E => a G O (fun d O1 => ownK d fun k => optK O1[k]? fun c => exnK ks c fun i ds => oneK ds fun v => n = fldN i ∧ Q v O1) E
section
variable {K : PySem.W.Frag} {W : WX} {mg : Str → Option Value} {ks : List Nat}
theorem rd_adr {A : Addr} : RdE K W (tC (.ref A)) (xK (.adr A)) := fun al H σ G O Q E R rel env h hq _ => hq _ _ _ _ _ (Stp.refl _ _) rel (.adr A) h
theorem Rp.adrI {al : AL} {H : Hp} {v : V} {A : Addr} (r : Rp K al H v (.adr A)) : v = .ref A := by cases r; rfl
theorem adrs_rp {al : AL} {H : Hp} : ∀ {js : List Nat} {xs : List V}, RpA K al H xs (js.map fun j => D.adr (clA K j)) → xs = js.map fun j => V.ref (clA K j)
  | [], xs, h => by cases h; rfl
  | j :: js, xs, h => by
    have h' : RpA K al H xs (.adr (clA K j) :: js.map fun j => D.adr (clA K j)) := h
    cases h' with
    | cons a t => rw [a.adrI, adrs_rp t]; rfl
theorem clsv_js : ∀ js : List Nat, Paired ClsV (js.map fun j => V.ref (clA K j)) (js.map fun j => Value.ref (clA K j))
  | [] => .nil
  | j :: js => .cons (.own _) (clsv_js js)
theorem Rp.exnI {al : AL} {H : Hp} {O : Om} (rel : Rel K al H O) {v : V} {k j : Nat} {fs : List D} (r : Rp K al H v (.own k)) (h : O[k]? = some (.exn j fs)) : ∃ a d, v = .ref a ∧ H a = some (exnO a (clA K j) d) ∧ XFs K al H d j fs := by
  obtain ⟨o, e1, q, hv⟩ := r.ownI rel h
  match o, q with
  | some (a, none), ⟨d, h1, h2⟩ => exact ⟨a, d, hv _ rfl, h1, h2⟩
theorem rd_isE1 (hX : XF K mg ks) {j : Nat} (hj : ks.contains j = true) {te te2 : TE} {a : TX} (h1 : RdE K W te a) (h2 : RdE K W te2 (xK (.adr (clA K j)))) : RdE K W (tCB (rIsX K) (tCons te (tCons te2 tNil))) (xIsE ks (fun i => subB i j) a) := by
  intro al H σ G O Q E R rel env q hq he
  refine h1 al H σ G O _ E _ rel env q (fun al1 H1 O1 v d s1 rel1 r1 q1 => ?_) he
  obtain ⟨k, rfl, q1⟩ := ownK.ex q1
  obtain ⟨i, fs, ek, hi, q1⟩ := exnK.ex q1
  refine h2 al1 H1 σ G O1 (fun d O' => d = .adr (clA K j) ∧ O' = O1) (fun _ _ => False) _ rel1 (env.mono s1) ⟨rfl, rfl⟩ (fun al2 H2 O2 v2 d2 s2 rel2 r2 q2 => ?_) (fun _ _ _ _ _ _ _ _ _ z => z.elim)
  obtain ⟨rfl, rfl⟩ := q2
  obtain ⟨ad, d, rfl, ha, hd⟩ := (r1.mono s2).exnI rel2 ek
  cases r2.adrI
  exact ⟨ad, clA K i, d, _, _, rfl, ha, hd.dict, hX.ec i hi, .inl ⟨_, .own _, hX.kit hi hj⟩, hq _ _ _ _ _ (s1.trans s2) rel2 (.bl _) q1⟩
def xKA (ds : List D) : TAX := fun _ O Q _ => Q ds O
theorem rd_isEs (hX : XF K mg ks) {js : List Nat} (hj : js.all (fun j => ks.contains j) = true) {n : Nat} (hn : n ≤ sizeLine) {te : TE} {ta : TA} {a : TX} (h1 : RdE K W te a) (h2 : RdA K W n ta (xKA (js.map fun j => .adr (clA K j)))) :
    RdE K W (tCB (rIsX K) (tCons te (tCons (tTup ta) tNil))) (xIsE ks (fun i => js.any (subB i)) a) := by
  intro al H σ G O Q E R rel env q hq he
  refine h1 al H σ G O _ E _ rel env q (fun al1 H1 O1 v d s1 rel1 r1 q1 => ?_) he
  obtain ⟨k, rfl, q1⟩ := ownK.ex q1
  obtain ⟨i, fs, ek, hi, q1⟩ := exnK.ex q1
  refine h2 al1 H1 σ G O1 (fun ds O' => ds = js.map (fun j => .adr (clA K j)) ∧ O' = O1) (fun _ _ => False) _ rel1 (env.mono s1) ⟨rfl, rfl⟩ (fun al2 H2 O2 xs ds s2 rel2 r2 hl q2 => ?_) (fun _ _ _ _ _ _ _ _ _ z => z.elim)
  obtain ⟨rfl, rfl⟩ := q2
  refine ⟨by rw [r2.length, hl]; exact hn, fun p hp => ?_⟩
  have s3 := stp_new (o := .tup xs) rel2.live hp
  have rel3 := rel2.new (o := .tup xs) hp
  obtain ⟨ad, d, rfl, ha, hd⟩ := ((r1.mono s2).mono s3).exnI rel3 ek
  have ex := adrs_rp r2
  exact ⟨ad, clA K i, d, _, _, rfl, ha, hd.dict, hX.ec i hi, .inr ⟨p, xs, _, rfl, upd_same, by rw [ex]; exact clsv_js js, hX.kitA hi hj⟩, hq _ _ _ _ _ ((s1.trans s2).trans s3) rel3 (.bl _) q1⟩
theorem rd_isEV (hX : XF K mg ks) {te : TE} {a : TX} (h1 : RdE K W te a) : RdE K W (tCB (rIsX K) (tCons te (tCons (tC (.ty "ValueError")) tNil))) (xIsE ks (fun _ => true) a) := by
  intro al H σ G O Q E R rel env q hq he
  refine h1 al H σ G O _ E _ rel env q (fun al1 H1 O1 v d s1 rel1 r1 q1 => ?_) he
  obtain ⟨k, rfl, q1⟩ := ownK.ex q1
  obtain ⟨i, fs, ek, hi, q1⟩ := exnK.ex q1
  obtain ⟨ad, d, rfl, ha, hd⟩ := r1.exnI rel1 ek
  exact ⟨ad, clA K i, d, _, _, rfl, ha, hd.dict, hX.ec i hi, .inl ⟨_, .ty _, hX.kitV hi⟩, hq _ _ _ _ _ s1 rel1 (.bl _) q1⟩
end
theorem lookup_one {κ : Type} [BEq κ] [LawfulBEq κ] {n : κ} {α : Type} {v : α} : ([(n, v)] : List (κ × α)).lookup n = some v := by simp [List.lookup]
section
variable {K : PySem.W.Frag} {W : WX} {mg : Str → Option Value} {ks : List Nat}
theorem rd_fldE (hX : XF K mg ks) {te : TE} {a : TX} {n : Str} (h1 : RdE K W te a) : RdE K W (tXfT K n te) (xFldE ks n a) := by
  intro al H σ G O Q E R rel env q hq he
  refine h1 al H σ G O _ E _ rel env q (fun al1 H1 O1 v d s1 rel1 r1 q0 => ?_) he
  obtain ⟨k, rfl, q1⟩ := ownK.ex q0
  obtain ⟨i, ds, ek, hi, q1⟩ := exnK.ex q1
  obtain ⟨ad, d, rfl, ha, hd⟩ := r1.exnI rel1 ek
  match ds, q1 with
  | [y], q1 =>
    have q1 : n = fldN i ∧ Q y O1 := q1
    rcases hd with ⟨z, _⟩ | ⟨dd, vs, rfl, _, h2, h3⟩
    · cases z
    · obtain ⟨e1, e2⟩ := h3
      match vs, e1, e2 with
      | [(m, u)], e1, e2 =>
        simp at e1
        subst e1
        cases e2 with
        | cons ru _ => exact ⟨ad, clA K i, dd, _, u, rfl, ha, hX.ec i hi, by rw [q1.1]; exact hX.fl i hi, h2, by rw [q1.1]; exact lookup_one, hq _ _ _ _ _ s1 rel1 ru q1.2⟩
end
section
variable {X : Cx} {W : WX} {ks : List Nat} {e : Expr} {x : Str} {p p2 pos pos2 : Pos} {t : TX}
theorem px_adr {j : Nat} (hX : XF X.K X.mg ks) (hj : ks.contains j = true) (hx : clsN j = x) (hg : Gl X x := by rfl) (hd : (x == ("__debug__" : Str)) = false := by decide) : PX X W (.Name x p) (xK (.adr (clA X.K j))) :=
  ⟨_, pe_glob hg (by rw [← hx]; exact hX.nm j hj) (v := .ref (clA X.K j)) rfl hd, rd_adr⟩
theorem px_isE1 {j : Nat} (hX : XF X.K X.mg ks) (hj : ks.contains j = true) (hm : X.mg "isinstance" = none) (h : PX X W e t) (h2 : PX X W (.Name x p2) (xK (.adr (clA X.K j)))) (hg : Gl X "isinstance" := by rfl)
    (hs1 : starEach (e :: [.Name x p2]) X.env = (false, eval e X.env) :: starEach [.Name x p2] X.env := by rfl) (hs2 : starEach (.Name x p2 :: []) X.env = (false, eval (.Name x p2) X.env) :: starEach [] X.env := by rfl) (hpl : (backTo pos (starEach [.Name x p2] X.env)).any (·.1) = false := by rfl) :
    PX X W (.Call (.Name "isinstance" p) [e, .Name x p2] [] pos) (xIsE ks (fun i => subB i j) t) := let ⟨_, p, q⟩ := h; let ⟨_, p3, q3⟩ := h2
  ⟨_, pe_callB call_isX hg hm (by decide +kernel) (pa_cons p (pa_cons p3 pa_nil hs2) hs1) (by decide) (by decide) hs1 hpl, rd_isE1 hX hj q q3⟩
theorem px_isEs {js : List Nat} {es : List Expr} {k} (hX : XF X.K X.mg ks) (hj : js.all (fun j => ks.contains j) = true) (hm : X.mg "isinstance" = none) (h : PX X W e t) (h2 : PAX X W es (xKA (js.map fun j => .adr (clA X.K j)))) (hn : decide (es.length ≤ 1000) = true := by rfl) (hg : Gl X "isinstance" := by rfl)
    (hs1 : starEach (e :: [.Tuple es k p2]) X.env = (false, eval e X.env) :: starEach [.Tuple es k p2] X.env := by rfl) (hs2 : starEach (.Tuple es k p2 :: []) X.env = (false, eval (.Tuple es k p2) X.env) :: starEach [] X.env := by rfl) (hpl : (backTo pos (starEach [.Tuple es k p2] X.env)).any (·.1) = false := by rfl) :
    PX X W (.Call (.Name "isinstance" p) [e, .Tuple es k p2] [] pos) (xIsE ks (fun i => js.any (subB i)) t) := let ⟨_, p, q⟩ := h; let ⟨_, p3, q3⟩ := h2
  ⟨_, pe_callB call_isX hg hm (by decide +kernel) (pa_cons p (pa_cons (pe_tup p3) pa_nil hs2) hs1) (by decide) (by decide) hs1 hpl, rd_isEs hX hj (Nat.le_trans (of_decide_eq_true hn) (by decide)) q q3⟩
theorem px_isEV (hX : XF X.K X.mg ks) (hm : X.mg "isinstance" = none) (hmv : X.mg "ValueError" = none) (h : PX X W e t) (hg : Gl X "isinstance" := by rfl) (hg2 : Gl X "ValueError" := by rfl)
    (hs1 : starEach (e :: [.Name "ValueError" p2]) X.env = (false, eval e X.env) :: starEach [.Name "ValueError" p2] X.env := by rfl) (hs2 : starEach (.Name "ValueError" p2 :: []) X.env = (false, eval (.Name "ValueError" p2) X.env) :: starEach [] X.env := by rfl) (hpl : (backTo pos (starEach [.Name "ValueError" p2] X.env)).any (·.1) = false := by rfl) :
    PX X W (.Call (.Name "isinstance" p) [e, .Name "ValueError" p2] [] pos) (xIsE ks (fun _ => true) t) := let ⟨_, p, q⟩ := h
  ⟨_, pe_callB call_isX hg hm (by decide +kernel) (pa_cons p (pa_cons (pe_bltn (v := .ty "ValueError") hg2 hmv (by decide +kernel) rfl (by decide) (by decide)) pa_nil hs2) hs1) (by decide) (by decide) hs1 hpl, rd_isEV hX q⟩
theorem px_fldE {n : Str} (hX : XF X.K X.mg ks) (h : PX X W e t) (hb : attributeBase e n X.env (eval e X.env) = eval e X.env := by rfl) : PX X W (.Attribute e n pos) (xFldE ks n t) :=
  let ⟨_, p, q⟩ := h; ⟨_, pe_xfT p hb, rd_fldE hX q⟩
end
/-! ### try -/
def tsOf (K : PySem.W.Frag) (W : WX) (t : TSX) : TS := fun R σ H => ∃ al G O D, Rel K al H O ∧ EnvR K al H σ G ∧ t D G O ∧ EdR K W al H D R
theorem PSsX.canon {X : Cx} {W : WX} {b : List Stmt} {t : TSX} (h : PSsX X W b t) : PSs X b (tsOf X.K W t) :=
  let ⟨_, p, q⟩ := h; ⟨fun pins s σ H D I ⟨al, G, O, D', a1, a2, a3, a4⟩ => p.run pins s σ H D I (q al H σ G O D' D a1 a2 a3 a4)⟩
theorem rd_tsOf {K : PySem.W.Frag} {W : WX} {t : TSX} : RdS K W (tsOf K W t) t := fun al H σ G O D R a1 a2 a3 a4 => ⟨al, G, O, D, a1, a2, a3, a4⟩

def xTryAs (ks : List Nat) (j i : Nat) (tb ts : TSX) : TSX := fun D G O => tb { D with ex := fun x G1 O1 => xite (ks.contains x.cls) (xite (subB x.cls j) (gsetK G1 i (some (.own O1.length)) fun G2 => ts { nx := fun G3 O3 => gsetK G3 i none fun G4 => D.nx G4 O3, rt := D.rt, bk := fun G3 O3 => gsetK G3 i none fun G4 => D.bk G4 O3, ct := fun G3 O3 => gsetK G3 i none fun G4 => D.ct G4 O3 } G2 (O1 ++ [.exn x.cls x.ds])) (D.ex x G1 O1)) False } G O
def xTryOnly (ks : List Nat) (j : Nat) (tb ts : TSX) : TSX := fun D G O => tb { D with ex := fun x G1 O1 => xite (ks.contains x.cls) (xite (subB x.cls j) (ts { D with ex := fun _ _ _ => False } G1 O1) (D.ex x G1 O1)) False } G O
theorem EnvR.wipe1 {K : PySem.W.Frag} {al : AL} {H : Hp} {σ : L2.St} {G : Gam} {i : Nat} (env : EnvR K al H σ G) : EnvR K al H (σ.set i none) (G.set i none) := by
  refine ⟨by rw [List.length_set, List.length_set]; exact env.len, fun j e h => ?_⟩
  by_cases hj : j = i
  · subst hj
    by_cases hlt : j < G.length
    · rw [List.getElem?_set_self hlt] at h; cases h
    · rw [List.getElem?_eq_none (by rw [List.length_set]; omega)] at h; cases h
  · rw [List.getElem?_set_ne (Ne.symm hj)] at h
    obtain ⟨u, h1, h2⟩ := env.get j e h
    exact ⟨u, by rw [List.getElem?_set_ne (Ne.symm hj)]; exact h1, h2⟩
section
variable {K : PySem.W.Frag} {W : WX} {mg : Str → Option Value} {ks : List Nat}
theorem xite_in {b : Bool} {p : Prop} (h : xite b p False) : b = true ∧ p := by
  cases b with
  | true => exact ⟨rfl, h⟩
  | false => exact (show False from h).elim
theorem rd_try_as (hX : XF K mg ks) {j i : Nat} (hj : ks.contains j = true) {tb : WX → TS} {ts : TS} {xb xs : TSX} (hb : ∀ W', RdS K W' (tb W') xb) (hs : RdS K WN ts xs) :
    RdS K W (fun D σ H => tb (wAsT K (.ref (clA K j)) i ts W D) D σ H) (xTryAs ks j i xb xs) := by
  intro al H σ G O D R rel env h e
  refine hb _ al H σ G O _ R rel env h ⟨e.nx, e.rt, e.bk, e.ct, fun al1 H1 O1 σ1 G1 x cls dd s1 rel1 env1 rx q => ?_⟩
  obtain ⟨hk, q⟩ := xite_in q
  obtain ⟨e0, hx⟩ := rx
  subst e0
  refine ⟨clA K x.cls, subB x.cls j, rfl, hX.exm hk hj, fun hb a na => ?_, fun hb => ?_⟩
  · rw [hb] at q
    have q : gsetK G1 i (some (.own O1.length)) _ := q
    rw [gsetK_eq] at q
    have s2 := stp_own (o := exnO a (clA K x.cls) dd) rel1.live na
    have rel2 := rel1.own (c := .exn x.cls x.ds) na ⟨dd, upd_same, hx.mono0 s2.toStp0⟩
    have rv : Rp K (al1.add (some (a, none))) (upd H1 a (exnO a (clA K x.cls) dd)) (.ref a) (.own O1.length) := by rw [← rel1.len]; exact own_new
    refine hs _ _ _ _ _ _ _ rel2 ((env1.mono s2).set rv) q ⟨?_, ?_, ?_, ?_, fun _ _ _ _ _ _ _ _ _ _ _ _ z => z.elim⟩
    · intro al' H' O' σ' G' s' rel' env' q'
      have q' : gsetK G' i none _ := q'
      rw [gsetK_eq] at q'
      exact e.nx _ _ _ _ _ ((s1.trans s2).trans s') rel' env'.wipe1 q'
    · intro al' H' O' v d s' rel' r' q'
      exact e.rt _ _ _ _ _ ((s1.trans s2).trans s') rel' r' q'
    · intro al' H' O' σ' G' s' rel' env' q'
      have q' : gsetK G' i none _ := q'
      rw [gsetK_eq] at q'
      exact e.bk _ _ _ _ _ ((s1.trans s2).trans s') rel' env'.wipe1 q'
    · intro al' H' O' σ' G' s' rel' env' q'
      have q' : gsetK G' i none _ := q'
      rw [gsetK_eq] at q'
      exact e.ct _ _ _ _ _ ((s1.trans s2).trans s') rel' env'.wipe1 q'
  · rw [hb] at q
    exact e.ex _ _ _ _ _ _ _ _ s1 rel1 env1 ⟨rfl, hx⟩ q
theorem rd_try_only (hX : XF K mg ks) {j : Nat} (hj : ks.contains j = true) {tb : WX → TS} {ts : TS} {xb xs : TSX} (hb : ∀ W', RdS K W' (tb W') xb) (hs : RdS K WN ts xs) :
    RdS K W (fun D σ H => tb (wOnly K (.ref (clA K j)) (fun _ _ _ => ts) W D) D σ H) (xTryOnly ks j xb xs) := by
  intro al H σ G O D R rel env h e
  refine hb _ al H σ G O _ R rel env h ⟨e.nx, e.rt, e.bk, e.ct, fun al1 H1 O1 σ1 G1 x cls dd s1 rel1 env1 rx q => ?_⟩
  obtain ⟨hk, q⟩ := xite_in q
  obtain ⟨e0, hx⟩ := rx
  subst e0
  refine ⟨subB x.cls j, hX.exm hk hj, fun hb a na => ?_, fun hb => ?_⟩
  · rw [hb] at q
    have e1 := e.mono s1
    exact hs _ _ _ _ _ _ _ rel1 env1 q ⟨e1.nx, e1.rt, e1.bk, e1.ct, fun _ _ _ _ _ _ _ _ _ _ _ _ z => z.elim⟩
  · rw [hb] at q
    exact e.ex _ _ _ _ _ _ _ _ s1 rel1 env1 ⟨rfl, hx⟩ q
end
section
variable {X : Cx} {W : WX} {ks : List Nat} {x n : Str} {i j : Nat} {body suite : List Stmt} {b₀ : Stmt} {np pos pos' : Pos} {tb ts : TSX}
theorem takes_suite {X : Cx} {a : Addr} {pn : List (Addr × Obj)} : Takes (X.suite a pn) WN := fun u s' ⟨_, _, _, _, _, _, _, _, _, _, _, _, _, _, _, _, w⟩ => w
theorem psx_try_as (hX : XF X.K X.mg ks) (hj : ks.contains j = true) (hx : clsN j = x) (tk : Takes X W) (hN : X.N.Nodup) (hi : X.N[i]? = some n)
    (hb : ∀ (W' : WX) (pn : List (Addr × Obj)) (xe : Value → Shared → Prop), Takes (X.tr pn xe) W' → PassesOwn (model X.prog X.w) X.A X.env xe → PSsX (X.tr pn xe) W' body tb)
    (hsu : ∀ (a : Addr) (pn : List (Addr × Obj)), PSsX (X.suite a pn) WN (b₀ :: suite) ts)
    (hs : X.stack = X.env :: X.outer := by rfl) (hf : X.env.frame = some X.env.locals := by rfl) (hex : X.ex = [] := by rfl) (hln : X.env.kindOf n = some .local := by rfl) (hg : Gl X x := by rfl) (hd : (x == ("__debug__" : Str)) = false := by decide) :
    PSX X W (.Try body [.ExceptHandler (some (.Name x np)) (some n) (b₀ :: suite) pos'] [] [] pos) (xTryAs ks j i tb ts) :=
  ⟨_, ps_try_asT (c := .ref (clA X.K j)) (tb := fun W' => tsOf X.K W' tb) (ts := tsOf X.K WN ts) hs hf hex hN hi hln ⟨hg, hd, .inl (by rw [← hx]; exact hX.nm j hj)⟩ tk (fun W' pn xe t1 t2 => (hb W' pn xe t1 t2).canon) (fun a pn => (hsu a pn).canon),
    rd_try_as hX hj (fun _ => rd_tsOf) rd_tsOf⟩
theorem psx_try_only (hX : XF X.K X.mg ks) (hj : ks.contains j = true) (hx : clsN j = x) (tk : Takes X W)
    (hb : ∀ (W' : WX) (pn : List (Addr × Obj)) (xe : Value → Shared → Prop), Takes (X.tr pn xe) W' → PassesOwn (model X.prog X.w) X.A X.env xe → PSsX (X.tr pn xe) W' body tb)
    (hsu : ∀ (a : Addr) (pn : List (Addr × Obj)), PSsX (X.suite a pn) WN (b₀ :: suite) ts)
    (hs : X.stack = X.env :: X.outer := by rfl) (hf : X.env.frame = some X.env.locals := by rfl) (hg : Gl X x := by rfl) (hd : (x == ("__debug__" : Str)) = false := by decide) :
    PSX X W (.Try body [.ExceptHandler (some (.Name x np)) none (b₀ :: suite) pos'] [] [] pos) (xTryOnly ks j tb ts) :=
  ⟨_, ps_try_only (c := .ref (clA X.K j)) (tb := fun W' => tsOf X.K W' tb) (ts := fun _ _ _ => tsOf X.K WN ts) hs hf ⟨hg, hd, .inl (by rw [← hx]; exact hX.nm j hj)⟩ tk (fun W' pn xe t1 t2 => (hb W' pn xe t1 t2).canon) (fun a oe cls d pn _ _ => (hsu a _).canon),
    rd_try_only hX hj (fun _ => rd_tsOf) rd_tsOf⟩
end
section
variable {X : Cx} {W : WX} {e : Expr} {es : List Expr}
theorem pka_nil : PAX X W [] (xKA []) := ⟨_, pa_nil, rd_nil⟩
theorem pka_cons {d : D} {ds : List D} (ha : PX X W e (xK d)) (hr : PAX X W es (xKA ds)) (hs : starEach (e :: es) X.env = (false, eval e X.env) :: starEach es X.env := by rfl) : PAX X W (e :: es) (xKA (d :: ds)) :=
  let ⟨_, p1, q1⟩ := ha; let ⟨_, p2, q2⟩ := hr; ⟨_, pa_cons p1 p2 hs, rd_cons q1 q2⟩
end
/-! ### the facts, by one look -/
def xfB1 (K : PySem.W.Frag) (p : Nat × Addr) : Bool :=
  PySem.W.keepIn K (.ref p.2) && (decide (PySem.W.findIn K (.ref p.2) "__getattribute__" = some (some (.builtin "BaseException.__getattribute__"))) && (decide (PySem.W.findIn K (.ref p.2) "__getattr__" = some none) &&
  (decide (PySem.W.subIn K (.ref p.2) (.type "BaseException") = some true) && (PySem.W.hasDictIn K p.2 && (decide (PySem.W.findIn K (.ref p.2) "__class__" = some (some (.builtin "object.__class__"))) &&
  (decide (PySem.W.mroIn K p.2 (.type "object") = some true) && (decide (PySem.W.typeIn K (.ref p.2) = some (.type "type")) && (decide (PySem.W.subIn K (.ref p.2) (.type "ValueError") = some true) && decide (PySem.W.findIn K (.ref p.2) (fldN p.1) = some none)))))))))
def xfB (K : PySem.W.Frag) (l : List (Nat × Addr)) : Bool :=
  decide (PySem.W.specialIn K (.builtin "object.__class__") "__get__" = some (some (.builtin "getset_descriptor.__get__"))) && (decide (PySem.W.takesIn K (.builtin "object.__class__") = some true) &&
  (l.all (xfB1 K) && l.all fun p => l.all fun q => decide (PySem.W.subIn K (.ref p.2) (.ref q.2) = some (subB p.1 q.1))))
theorem xf_mk {K : PySem.W.Frag} {mg : Str → Option Value} {l : List (Nat × Addr)} (hl : ∀ p ∈ l, mg (clsN p.1) = some (.ref p.2)) (hc : ∀ p ∈ l, clA K p.1 = p.2) (hb : xfB K l = true) : XF K mg (l.map (·.1)) := by
  obtain ⟨h1, hb⟩ := Bool.and_eq_true_iff.mp hb
  obtain ⟨h2, hb⟩ := Bool.and_eq_true_iff.mp hb
  obtain ⟨h3, h4⟩ := Bool.and_eq_true_iff.mp hb
  have at_ : ∀ k, (l.map (·.1)).contains k = true → ∃ p ∈ l, p.1 = k := fun k hk => by
    obtain ⟨p, hp, e⟩ := List.mem_map.mp (List.contains_iff_mem.mp hk)
    exact ⟨p, hp, e⟩
  have one : ∀ p ∈ l, xfB1 K p = true := List.all_eq_true.mp h3
  refine ⟨fun k hk => ?_, fun k hk => ?_, fun k hk => ?_, fun k hk => ?_, fun i j hi hj => ?_, fun k hk => ?_, fun k hk => ?_⟩
  · obtain ⟨p, hp, rfl⟩ := at_ k hk; rw [hc p hp]; exact hl p hp
  all_goals first
    | (obtain ⟨p, hp, rfl⟩ := at_ k hk
       rw [hc p hp]
       have z := one p hp
       unfold xfB1 at z
       simp only [Bool.and_eq_true, decide_eq_true_eq] at z
       obtain ⟨a1, a2, a3, a4, a5, a6, a7, a8, a9, a10⟩ := z
       first
       | exact a1
       | exact ⟨a2, a3, a4, a5, a6, of_decide_eq_true h1, of_decide_eq_true h2, a7⟩
       | exact a8
       | exact a9
       | exact a10)
    | (obtain ⟨p, hp, rfl⟩ := at_ i hi
       obtain ⟨q, hq, rfl⟩ := at_ j hj
       rw [hc p hp, hc q hq]
       exact of_decide_eq_true (List.all_eq_true.mp (List.all_eq_true.mp h4 p hp) q hq))
end Px

namespace Px
open PySem PySem.Spec PyProof.Rows L2
/-! ### replace of written texts, behind a written text of the same display -/
/-- behind it a token is out -/
def strK (d : D) (Q : Str → Prop) : Prop := match d with
  | .str x => Q x
  | _ => False
theorem strK.ex {d : D} {Q : Str → Prop} (h : strK d Q) : ∃ x, d = .str x ∧ Q x := by
  cases d with
  | str x => exact ⟨x, rfl, h⟩
  | _ => exact (show False from h).elim
def PEK (X : Cx) (e : Expr) (te : TE) : Prop := ∀ (pins : List (Addr × Obj)) (s : Shared) (σ : L2.St) (H : Hp) (Q : VK), Inv X pins σ H s → te σ H Q → wpAny (model X.prog X.w) X.A (eval e X.env) (fun u s1 => 1 ≤ s1.toks ∧ EP X pins σ Q u s1) X.xe s
def PXK (X : Cx) (W : WX) (e : Expr) (t : TX) : Prop := ∃ te, PEK X e te ∧ RdE X.K W te t
def PXT (X : Cx) (W : WX) (e : Expr) (t : TX) : Prop := ∃ te, PET X e te ∧ RdE X.K W te t
def PAXT (X : Cx) (W : WX) (es : List Expr) (t : TAX) : Prop := ∃ ta, PAT X es ta ∧ RdA X.K W es.length ta t
def xRepl (z : Str) (t : TX) : TX := fun G O Q E => t G O (fun d O1 => strK d fun x => x.length ≤ 1000 ∧ z.length ≤ 1000 ∧ ∀ r : Str, r.length ≤ x.length + (x.length + 1) * z.length → Q (.str r) O1) E
theorem sok_repl {x z : Str} {c : Nat} (hc : c < 256) (hx : SOk x) (hz : SOk z) (h1 : x.length ≤ 1000) (h2 : z.length ≤ 1000) : SOk (Txt.replace x ⟨#[c]⟩ z) := by
  rw [StrLaws.replace_one, split_eq hc, ← TL.join_eq]
  have hs := sok_sls (s := c) hx
  refine sok_join hz hs ?_
  have hl : (sls c x).length ≤ 1001 := by
    have e2 : x.cps.toList.length = x.cps.size := Array.length_toList
    have e : x.length = x.cps.size := rfl
    have := splitL_len c x.cps.toList
    unfold sls; rw [List.length_map]; omega
  have hm : ∀ y ∈ sls c x, y.length ≤ 1000 := fun y hy => by
    obtain ⟨l, hl, rfl⟩ := List.mem_map.mp hy
    have := (splitL_mem c _ l hl).2
    have e2 : x.cps.toList.length = x.cps.size := Array.length_toList
    have e : x.length = x.cps.size := rfl
    show l.toArray.size ≤ _
    rw [List.size_toArray]; omega
  have sumle : ∀ l : List Str, (∀ y ∈ l, y.length ≤ 1000) → (l.map (·.length)).sum ≤ 1000 * l.length := fun l => by
    induction l with
    | nil => intro _; simp
    | cons y l ih =>
      intro h
      have a := h y (List.mem_cons_self ..)
      have b := ih fun w hw => h w (List.mem_cons_of_mem _ hw)
      rw [List.map_cons, List.sum_cons, List.length_cons]; omega
  have h3 := sumle _ hm
  have h4 : (sls c x).length * z.length ≤ 1001 * 1000 := Nat.mul_le_mul hl h2
  show ((sls c x).map (·.length)).sum + (sls c x).length * z.length ≤ _
  omega
section
variable {X : Cx} {W : WX} {e o b : Expr} {es : List Expr}
theorem pek_strop {op : Operator} {x : Str} {j : Nat} {p pos : Pos} {r : R2} {tb : TE} (ho : OpR X (binaryOp op) r) (hb : PE X b tb) : PEK X (.BinOp (.Constant (.str x) j p) op b pos) (tOp r (tC (.str x)) tb) := by
  intro pins s σ H Q I h
  refine wpAny_BinOp (Calls.Constant_str ?_)
  refine wpAny_mono (PySem.wpAny_toks (hb.run pins { s with toks := s.toks + 1 } σ H _ (I.tok _) h)) (fun u s2 q => ?_) fun _ _ z => z.2
  obtain ⟨hk, y, H2, I2, r2, q2⟩ := q
  have hk : s.toks + 1 ≤ s2.toks := hk
  refine wpAny_mono (PySem.wpAny_toks (ho pins s2 σ H2 (.str x) y _ u Q I2 ⟨_, rfl⟩ r2 q2)) (fun w s3 q3 => ⟨?_, q3.2⟩) fun _ _ z => z.2
  have := q3.1
  omega
theorem pxk_strop {op : Operator} {x : Str} {j : Nat} {p pos : Pos} {t : D → D → Om → QX → Prop} {xb : TX} (hr : BO X op t) (hb : PX X W b xb) (h : (decide (x.length ≤ sizeLine) && PyData.strOk x) = true := by decide +kernel) : PXK X W (.BinOp (.Constant (.str x) j p) op b pos) (xOp t (xC (.str x)) xb) :=
  let ⟨_, r1, r2⟩ := hr; let ⟨_, p2, q2⟩ := hb; ⟨_, pek_strop r1 p2, rd_op r2 (rd_c fun _ _ => .str x ⟨of_decide_eq_true (Bool.and_eq_true_iff.mp h).1, (Bool.and_eq_true_iff.mp h).2⟩) q2⟩
theorem paxT_nil : PAXT X W [] xNil := ⟨_, pat_nil, rd_nil⟩
theorem PX.T {t : TX} (h : PX X W e t) : PXT X W e t := let ⟨_, p, q⟩ := h; ⟨_, fun pins s σ H Q _ I q => p.run pins s σ H Q I q, q⟩
theorem paxT_cons {xa : TX} {xr : TAX} (ha : PXT X W e xa) (hr : PAXT X W es xr) (hs : starEach (e :: es) X.env = (false, eval e X.env) :: starEach es X.env := by rfl) : PAXT X W (e :: es) (xCons xa xr) :=
  let ⟨_, p1, q1⟩ := ha; let ⟨_, p2, q2⟩ := hr; ⟨_, pat_cons p1 p2 hs, rd_cons q1 q2⟩
theorem paxK {xa : TX} {xr : TAX} (ha : PXK X W e xa) (hr : PAXT X W es xr) (hs : starEach (e :: es) X.env = (false, eval e X.env) :: starEach es X.env := by rfl) : PAX X W (e :: es) (xCons xa xr) :=
  let ⟨_, p1, q1⟩ := ha; let ⟨_, p2, q2⟩ := hr; ⟨_, ⟨fun pos pins s σ H Q I h => by
    rw [hs]
    show wpAny _ _ (spliced ((false, eval e X.env) :: backTo pos (starEach es X.env))) _ _ s
    refine Calls.spliced_cons (wpAny_mono (p1 pins s σ H _ I h) (fun u s1 ⟨ht, x, H1, I1, r1, q1⟩ => ?_) fun _ _ z => z)
    exact thn (p2 pos pins s1 σ H1 _ ht I1 q1) fun us s2 ⟨xs, H2, I2, r2, q2⟩ => ⟨x :: xs, H2, I2, .cons r1 r2, q2⟩⟩, rd_cons q1 q2⟩
theorem pxt_repl {y z : Str} {j k c : Nat} {c0 c1 apos pos : Pos} {t : TX} (ho : PX X W o t) (hy : y = ⟨#[c]⟩) (hc : c < 256) (hz : (decide (z.length ≤ sizeLine) && PyData.strOk z) = true) (hyz : (y == z) = false := by decide)
    (hst : starEach [.Constant (.str y) j c0, .Constant (.str z) k c1] X.env = [(false, eval (.Constant (.str y) j c0) X.env), (false, eval (.Constant (.str z) k c1) X.env)] := by rfl)
    (hbase : attributeBase o "replace" X.env (eval o X.env) = eval o X.env := by rfl) (hline : (apos.endLine == pos.line) = true := by rfl) :
    PXT X W (.Call (.Attribute o "replace" apos) [.Constant (.str y) j c0, .Constant (.str z) k c1] [] pos) (xRepl z t) := by
  obtain ⟨_, p, q⟩ := ho
  refine ⟨_, CwR.pet_replC p hyz hst hbase hline, ?_⟩
  intro al H σ G O Q E R rel env h hq he
  refine q al H σ G O _ E _ rel env h (fun al1 H1 O1 v d s1 rel1 r1 q1 => ?_) he
  obtain ⟨x, rfl, h1, h2, q1⟩ := strK.ex q1
  cases r1 with
  | str _ hx =>
    have hl := TK.replace_len x y z
    refine ⟨x, rfl, ?_, hq _ _ _ _ _ s1 rel1 (.str _ ?_) (q1 _ hl)⟩
    · have : (x.length + 1) * z.length ≤ 1001 * 1000 := Nat.mul_le_mul (by omega) h2
      omega
    · subst hy
      exact sok_repl hc hx ⟨of_decide_eq_true (Bool.and_eq_true_iff.mp hz).1, (Bool.and_eq_true_iff.mp hz).2⟩ h1 h2
end
end Px

namespace Px
open PySem PySem.Spec PyProof.Rows L2
/-! ### sorted of lists, tuples, dicts -/
section
variable {prog : Program} {w : World} {A : Around} {E : Value → Shared → Prop} {s : Shared}
theorem collect_tupA {l : Addr} {vs : List Value} {Q : List Value → Shared → Prop} (hl : IsTup s.heap l vs.toArray)
    (h : Q vs { s with heap := (s.heap.push (seqObj "list" #[] 0)).update s.heap.objs.size (Obj.mapSeq (· ++ vs.toArray)) }) (hsz : vs.length ≤ sizeLine) :
    wpAny (model prog w) A (collect (.ref l)) Q E s := by
  obtain ⟨o, ho, hc, n, hd⟩ := id hl
  unfold collect
  refine wpAny_bind (wpAny_runValue (codeAny_builtin entry_proto_collect' ?_))
  show wpAny _ _ (do again (.builtin "list.__iadd__" ⟨[← newList [], .ref l], []⟩)) _ _ s
  refine wpAny_bind (wpAny_newList (wpAny_pure ⟨Code.quiet_builtin _ (by decide +kernel), codeAny_builtin entry_list_iadd' ?_⟩))
  show wpAny _ _ (Builtin.List.listExtendWith (.ref s.heap.objs.size) (.ref l) (.ref s.heap.objs.size)) _ _ { s with heap := s.heap.push (seqObj "list" #[] 0) }
  unfold Builtin.List.listExtendWith
  have ho' : (s.heap.push (seqObj "list" #[] 0)).get? l = some o := Heap.get?_push_of_some _ ho
  refine wpAny_bind (wpAny_typeOf (T := "tuple") ⟨o, ho', hc⟩ ?_)
  rw [if_pos (by first | rfl | decide | (simp))]
  refine wpAny_bind (listItems_at ho' hd ?_)
  refine wpAny_bind (listItems_at (xs := #[]) (n := 0) (Heap.get?_push_size _ rfl) rfl ?_)
  rw [if_neg (by simp)]
  refine wpAny_bind (listUpdate_at (xs := #[]) (n := 0) (Heap.get?_push_size _ rfl) rfl ?_ (Nat.zero_le _) (by show (#[] ++ vs.toArray).size ≤ sizeLine + 1; simp only [Array.size_append, List.size_toArray, List.length_nil]; omega))
  refine wpAny_pure ?_
  show wpAny (model prog w) A (do
      let o ← load s.heap.objs.size
      match o.data with
      | .seq xs _ => pure xs.toList
      | _ => unsupported "internal:collect") Q E { s with heap := (s.heap.push (seqObj "list" #[] 0)).update s.heap.objs.size (Obj.mapSeq (· ++ vs.toArray)) }
  refine wpAny_bind (wpAny_load (get?_update_seq (Heap.get?_push_size _ rfl) _) ?_)
  show wpAny _ _ (pure ((#[] : Array Value) ++ vs.toArray).toList) Q E _
  rw [show ((#[] : Array Value) ++ vs.toArray).toList = vs by simp]
  exact wpAny_pure h
theorem sortedTup {κ : KeyKind} (hO : κ.OneLt) {l : Addr} {vs : List Value} {Q : Value → Shared → Prop} (hl : IsTup s.heap l vs.toArray) (h0 : KeysOf κ (pairsOf vs)) (hkk : ∀ v₁ v₂ rest, vs = v₁ :: v₂ :: rest → keyKind' (v₁ :: v₂ :: rest).toArray = pure oneType') (hL : vs.length ≤ sizeLine)
    (h : ∀ st' : SortSt, (arrOf st').Perm (pairsOf vs) → SortedToK κ (arrOf st') (pairsOf vs).size → Q (.ref (s.heap.objs.size + 1)) { s with heap := sortedAll s.heap vs ((arrOf st').map (·.2)) }) :
    wpAny (model prog w) A (call (.builtin "sorted") [.ref l]) Q E s := by
  refine Calls.call_function_entry kind_sorted plain_sorted entry_sorted (args_sorted1 _) ?_
  unfold Builtin.«sorted»
  refine wpAny_bind (m := checkCount "sorted" 1 1 _) (wpAny_pure ?_)
  refine wpAny_bind (collect_tupA hl ?_ hL)
  refine wpAny_bind (wpAny_newList ?_)
  have hsz : ((s.heap.push (seqObj "list" #[] 0)).update s.heap.objs.size (Obj.mapSeq (· ++ vs.toArray))).objs.size = s.heap.objs.size + 1 := by
    rw [Heap.size_update, size_push']
  have hoL : (((s.heap.push (seqObj "list" #[] 0)).update s.heap.objs.size (Obj.mapSeq (· ++ vs.toArray))).push (seqObj "list" vs.toArray 0)).get? (s.heap.objs.size + 1) = some (seqObj "list" vs.toArray 0) := by
    rw [← hsz]; exact Heap.get?_push_size _ rfl
  show wpAny _ _ _ _ _ { s with heap := ((s.heap.push (seqObj "list" #[] 0)).update s.heap.objs.size (Obj.mapSeq (· ++ vs.toArray))).push (seqObj "list" vs.toArray 0) }
  rw [hsz]
  refine wpAny_bind (wpAny_holding (wpAny_call_entry slot_list_sort ⟨_, hoL, rfl⟩ entry_list_sort (list_sort_treeKAny hO hoL h0 hkk hL fun st' a1 a2 => ⟨_, rfl, ?_⟩) (args_list_sort _)))
  exact wpAny_pure ⟨_, rfl, h st' a1 a2⟩
theorem sorted_tupStrs {l : Addr} {vs : List Value} {ss : List Str} {Q : Value → Shared → Prop} (hl : IsTup s.heap l vs.toArray) (hS : StrsAre vs ss) (hL : vs.length ≤ sizeLine)
    (h : ∀ (out : Array Value) (ss' : List Str), StrsAre out.toList ss' → ss'.Perm ss → sortedS ss' = true → Q (.ref (s.heap.objs.size + 1)) { s with heap := sortedAll s.heap vs out }) :
    wpAny (model prog w) A (call (.builtin "sorted") [.ref l]) Q E s := by
  refine sortedTup strKind_oneLt hl hS.keysOf (fun v₁ v₂ rest e => keyKind_strs (by rw [← e]; exact hS)) hL fun st' hp hs => ?_
  obtain ⟨ss', h1, h2, h3⟩ := sorted_out_str hS hp hs
  exact h _ ss' h1 h2 h3
end
section
variable {X : Cx}
/-- sorted(xs), xs a list or a tuple of texts -/
def rSortS (K : PySem.W.Frag) : List V → Hp → VK → Prop := fun vs H Q => ∃ (a : Addr) (xs : List Str), vs = [V.ref a] ∧ (SqL K H a (xs.map V.str) ∨ SqT K H a (xs.map V.str)) ∧ xs.length ≤ sizeLine ∧
  ∀ (ys : List Str) (p : Addr), ys.Perm xs → sortedS ys = true → H p = none → Q (.ref p) (upd H p (.lst (ys.map V.str)))
theorem cr_sortS : CallR X (.builtin "sorted") (rSortS X.K) := by
  intro pins s σ H vs us Q I r h
  obtain ⟨a, xs, rfl, hs, hz, q⟩ := h
  rw [Vals.ref1 r]
  have fin : ∀ (its : List Value) (out : Array Value) (ys : List Str), StrsAre out.toList ys → ys.Perm xs → sortedS ys = true → EP X pins σ Q (.ref (s.heap.objs.size + 1)) { s with heap := sortedAll s.heap its out } := fun its out ys h1 h2 h3 => by
    obtain ⟨ep, he'⟩ := PyProof.Rows.sortedAll_at s.heap its out
    have hlen : (ys.map V.str).length ≤ sizeLine := by rw [List.length_map, h2.length_eq]; exact hz
    exact ⟨.ref _, upd H (s.heap.objs.size + 1) (.lst (ys.map V.str)), I.laid (t' := s.toks) (fun _ _ => PyProof.Rows.sortedAll_old) (Nat.le_succ _) ⟨hlen, out.toList, ep, vals_of_strs h1, he'⟩, rfl, q ys _ h2 h3 (I.hok.fresh (Nat.le_succ _))⟩
  rcases hs with hs | hs
  · obtain ⟨its, rv, hl, _⟩ := I.list hs
    have hlen0 := rv.length
    rw [List.length_map] at hlen0
    exact sorted_strsAny hl.isList rv.strs (by rw [← hlen0]; exact hz) fun out ys h1 h2 h3 => fin its out ys h1 h2 h3
  · obtain ⟨its, rv, hl, _⟩ := I.tuple hs
    have hlen0 := rv.length
    rw [List.length_map] at hlen0
    exact sorted_tupStrs hl rv.strs (by rw [← hlen0]; exact hz) fun out ys h1 h2 h3 => fin its out ys h1 h2 h3
end
/-! ### a, b = a tuple or a list -/
def xSeqG (n : Nat) (t : TGsX) : TGX := fun d G O Q _ => optK (seqD O d) fun ds => ds.length = n ∧ t ds G O Q
theorem rd_seqG {K : PySem.W.Frag} {W : WX} {n : Nat} {is : List Nat} {tg : TGs} {t : TGsX} (hg : RdGs K is tg t) : RdG K W is (fun v σ H Q => gTup K n tg v σ H Q ∨ gLst K n tg v σ H Q) (xSeqG n t) := by
  intro al H σ G O v d Q E R rel env r q hq he
  obtain ⟨ds, e, hl, q⟩ := optK.ex q
  obtain ⟨a, xs, rfl, hs, hr, _⟩ := seqD_rp rel r e
  rcases hs with hs | hs
  · exact .inr ⟨a, xs, rfl, hs, by rw [hr.length, hl], hg al H σ G O xs ds Q R rel env hr q fun σ' G' env' hw q => hq _ _ _ _ _ (Stp.refl _ _) rel env' hw q⟩
  · exact .inl ⟨a, xs, rfl, hs, by rw [hr.length, hl], hg al H σ G O xs ds Q R rel env hr q fun σ' G' env' hw q => hq _ _ _ _ _ (Stp.refl _ _) rel env' hw q⟩
theorem pgx_seq {X : Cx} {W : WX} {pos : Pos} {es : List Expr} {is : List Nat} {k : Nat} {t : TGsX} {n : Nat} (hc : X.calm = true) (h : PGsX X es is t) (hn : (assignEach es X.env).length = n := by rfl) (hst : (assignEach es X.env).findIdx? (·.1) = none := by rfl) : PGX X W (.Tuple es k pos) is (xSeqG n t) :=
  let ⟨_, p, q⟩ := h
  ⟨_, ⟨fun pins s σ H v u Q I rv hw => hw.elim (fun hw => (pg_tup hc p hn hst).run pins s σ H v u Q I rv hw) fun hw => (pg_lst hc p hn hst).run pins s σ H v u Q I rv hw⟩, rd_seqG q⟩
theorem fnx_bot {P : Program} {w : World} {K : PySem.W.Frag} {mg : Str → Option Value} {base : Heap} {k : Nat} {f : Addr} {fd : FuncData} {ps : List Str} : FnX P w K mg base k f fd ps (fun _ _ _ _ => False) := by
  have no : ∀ {vs H Q E}, ¬ spX K (fun _ _ _ _ => False) vs H Q E := fun ⟨_, _, _, _, _, _, _, z, _⟩ => z
  constructor
  · exact fun _ _ _ _ h => (no h).elim
  · intros; exact (no (by assumption)).elim
/-! ### the sorted list is one -/
theorem ltC_irr : ∀ a : List Nat, ltCps a a = false
  | [] => rfl
  | x :: r => by show (decide (x < x) || (x == x && ltCps r r)) = false; rw [ltC_irr r, decide_eq_false (Nat.lt_irrefl _)]; simp
theorem ltC_tr : ∀ {a b c : List Nat}, ltCps b a = false → ltCps c b = false → ltCps c a = false
  | [], b, [], _, _ => rfl
  | [], [], _ :: _, _, h => by cases h <;> rfl
  | [], _ :: _, _ :: _, h, _ => by first | rfl | cases h
  | _ :: _, [], [], h, _ => by cases h
  | x :: r, [], z :: u, h, _ => by cases h
  | x :: r, y :: t, [], _, h => by cases h
  | x :: r, y :: t, z :: u, h, h' => by
    have h1 : (decide (y < x) || (y == x && ltCps t r)) = false := h
    have h2 : (decide (z < y) || (z == y && ltCps u t)) = false := h'
    rw [Bool.or_eq_false_iff] at h1 h2
    have a1 := of_decide_eq_false h1.1
    have a2 := of_decide_eq_false h2.1
    show (decide (z < x) || (z == x && ltCps u r)) = false
    rw [decide_eq_false (by omega), Bool.false_or]
    by_cases e : z = x
    · have e1 : y = x := by omega
      have e2 : z = y := by omega
      have b1 := h1.2
      have b2 := h2.2
      rw [beq_iff_eq.mpr e1, Bool.true_and] at b1
      rw [beq_iff_eq.mpr e2, Bool.true_and] at b2
      rw [ltC_tr b1 b2, Bool.and_false]
    · rw [beq_eq_false_iff_ne.mpr e, Bool.false_and]
theorem ltC_tot : ∀ a b : List Nat, ltCps a b = false ∨ ltCps b a = false
  | [], [] => .inl rfl
  | [], _ :: _ => .inr rfl
  | _ :: _, [] => .inl rfl
  | x :: r, y :: t => by
    show (decide (x < y) || (x == y && ltCps r t)) = false ∨ (decide (y < x) || (y == x && ltCps t r)) = false
    by_cases h : x = y
    · subst h
      rw [decide_eq_false (Nat.lt_irrefl _), beq_self_eq_true]
      exact ltC_tot r t
    · by_cases h2 : x < y
      · right; rw [decide_eq_false (by omega), beq_eq_false_iff_ne.mpr (Ne.symm h)]; rfl
      · left; rw [decide_eq_false h2, beq_eq_false_iff_ne.mpr h]; rfl
theorem ltC_anti : ∀ {a b : List Nat}, ltCps a b = false → ltCps b a = false → a = b
  | [], [], _, _ => rfl
  | [], _ :: _, h, _ => by cases h
  | _ :: _, [], _, h => by cases h
  | x :: r, y :: t, h, h' => by
    have h1 : (decide (x < y) || (x == y && ltCps r t)) = false := h
    have h2 : (decide (y < x) || (y == x && ltCps t r)) = false := h'
    rw [Bool.or_eq_false_iff] at h1 h2
    have a1 := of_decide_eq_false h1.1
    have a2 := of_decide_eq_false h2.1
    have e : x = y := by omega
    subst e
    have b1 := h1.2
    have b2 := h2.2
    rw [beq_self_eq_true, Bool.true_and] at b1 b2
    rw [ltC_anti b1 b2]
def leS (a b : Str) : Bool := !ltCps b.cps.toList a.cps.toList
theorem leS_tr (a b c : Str) (h : leS a b = true) (h' : leS b c = true) : leS a c = true := by
  unfold leS at *
  rw [Bool.not_eq_true'] at *
  exact ltC_tr h h'
theorem leS_tot (a b : Str) : (leS a b || leS b a) = true := by
  unfold leS
  rcases ltC_tot b.cps.toList a.cps.toList with h | h <;> rw [h] <;> simp
theorem leS_anti {a b : Str} (h : leS a b = true) (h' : leS b a = true) : a = b := by
  unfold leS at *
  rw [Bool.not_eq_true'] at *
  exact str_ext (ltC_anti h' h)
/-- the sorted one -/
def sortS (xs : List Str) : List Str := xs.mergeSort leS
theorem sortS_pw (xs : List Str) : (sortS xs).Pairwise (fun a b => leS a b = true) := List.pairwise_mergeSort leS_tr leS_tot xs
theorem sortS_perm (xs : List Str) : (sortS xs).Perm xs := List.mergeSort_perm xs leS
theorem risingS_pw : ∀ {x : Str} {r : List Str}, risingS x r = true → (x :: r).Pairwise (fun a b => leS a b = true)
  | x, [], _ => List.pairwise_singleton _ _
  | x, y :: r, h => by
    have h' : (leS x y && risingS y r) = true := h
    rw [Bool.and_eq_true] at h'
    have ih := risingS_pw h'.2
    refine List.pairwise_cons.mpr ⟨fun z hz => ?_, ih⟩
    rcases List.mem_cons.mp hz with e | hz
    · rw [e]; exact h'.1
    · exact leS_tr _ _ _ h'.1 ((List.pairwise_cons.mp ih).1 z hz)
theorem sortedS_pw : ∀ {ys : List Str}, sortedS ys = true → ys.Pairwise (fun a b => leS a b = true)
  | [], _ => List.Pairwise.nil
  | _ :: _, h => risingS_pw h
theorem srt_uniq {xs ys : List Str} (hp : ys.Perm xs) (hs : sortedS ys = true) : ys = sortS xs :=
  List.Perm.eq_of_pairwise (fun _ _ _ _ => leS_anti) (sortedS_pw hs) (sortS_pw xs) (hp.trans (sortS_perm xs).symm)
def sortI (xs : List Int) : List Int := xs.mergeSort fun a b => decide (a ≤ b)
theorem sortI_pw (xs : List Int) : (sortI xs).Pairwise (· ≤ ·) :=
  (List.pairwise_mergeSort (le := fun a b : Int => decide (a ≤ b)) (fun a b c h h' => decide_eq_true (Int.le_trans (of_decide_eq_true h) (of_decide_eq_true h'))) (fun a b => by
    rcases Int.le_total a b with h | h
    · rw [decide_eq_true h]; rfl
    · rw [decide_eq_true h, Bool.or_true]) xs).imp fun h => of_decide_eq_true h
theorem sortI_perm (xs : List Int) : (sortI xs).Perm xs := List.mergeSort_perm xs _
theorem srtI_uniq {xs ys : List Int} (hp : ys.Perm xs) (hs : ys.Pairwise (· ≤ ·)) : ys = sortI xs :=
  List.Perm.eq_of_pairwise (fun _ _ _ _ h h' => Int.le_antisymm h h') hs (sortI_pw xs) (hp.trans (sortI_perm xs).symm)
/-! ### data that is equal to itself -/
mutual
theorem eq_self : ∀ {n : Nat} {d : D}, D.ok n d = true → D.eq d d = true
  | _, .non, _ => rfl
  | _, .bl b, _ => by show (b == b) = true; simp
  | _, .int i, _ => by show (i == i) = true; simp
  | _, .str x, _ => by show (x == x) = true; simp
  | n + 1, .tup ds, h => eqs_self (n := n) h
  | n + 1, .lst ds, h => eqs_self (n := n) h
  | 0, .tup ds, h => by cases h
  | 0, .lst ds, h => by cases h
  | 0, .own k, h => by cases h
  | n + 1, .own k, h => by cases h
  | 0, .adr k, h => by cases h
  | n + 1, .adr k, h => by cases h
theorem eqs_self : ∀ {n : Nat} {ds : List D}, D.oks n ds = true → D.eqs ds ds = true
  | _, [], _ => rfl
  | n, d :: ds, h => by
    have h' : (D.ok n d && D.oks n ds) = true := h
    rw [Bool.and_eq_true] at h'
    show (D.eq d d && D.eqs ds ds) = true
    rw [eq_self h'.1, eqs_self h'.2]; rfl
end
def dSrtS (ds : List D) (O : Om) (Q : QX) : Prop := match ds with
  | [d] => optK (seqD O d) fun es => optK (D.strs es) fun xs => xs.length ≤ 1000000 ∧ Q (.lst ((sortS xs).map .str)) O
  | _ => False
def dSrtI (ds : List D) (O : Om) (Q : QX) : Prop := match ds with
  | [d] => optK (lstD O d) fun es => optK (D.ints es) fun xs => xs.length ≤ 1000000 ∧ Q (.lst ((sortI xs).map .int)) O
  | _ => False
theorem oks_vals {K : PySem.W.Frag} {al : AL} {H : Hp} : ∀ {ys : List Str}, (∀ y ∈ ys, SOk y) → RpA K al H (ys.map V.str) (ys.map D.str) := strsR
theorem ints_vals {K : PySem.W.Frag} {al : AL} {H : Hp} : ∀ ns : List Int, RpA K al H (ns.map V.int) (ns.map D.int)
  | [] => .nil
  | n :: ns => .cons (.int n) (ints_vals ns)
theorem f_sortS {X : Cx} : FO X (.builtin "sorted") dSrtS := ⟨_, cr_sortS, fun al H O xs ds Q R rel r h hq => by
  match ds, h with
  | [d], h =>
    obtain ⟨es, e1, h⟩ := optK.ex h
    obtain ⟨ss, e2, hl, h⟩ := optK.ex h
    obtain ⟨v, rfl, rv⟩ := r.one
    obtain ⟨a, us, rfl, hs, hr, _⟩ := seqD_rp rel rv e1
    obtain ⟨e5, e6⟩ := hr.strsI e2
    subst e5
    refine ⟨a, ss, rfl, hs, by rw [sizeLine_eq]; omega, fun ys p hp hs hn => hq _ _ _ _ _ (stp_new rel.live hn) (rel.new hn) (new_lst rel hn (strsR fun y hy => e6 y (hp.mem_iff.mp hy)) (by rw [List.length_map, hp.length_eq, sizeLine_eq]; omega)) (by first | (rw [srt_uniq hp hs]; exact h) | (rw [srtI_uniq hp hs]; exact h))⟩⟩
theorem f_sortI {X : Cx} : FO X (.builtin "sorted") dSrtI := ⟨_, cr_sortedI, fun al H O xs ds Q R rel r h hq => by
  match ds, h with
  | [d], h =>
    obtain ⟨es, e1, h⟩ := optK.ex h
    obtain ⟨ss, e2, hl, h⟩ := optK.ex h
    obtain ⟨v, rfl, rv⟩ := r.one
    obtain ⟨a, us, rfl, hs, hr, _⟩ := lstD_rp rel rv e1
    have e5 := hr.intsI e2
    subst e5
    refine ⟨a, ss, rfl, hs, fun ys p hp hs hn => hq _ _ _ _ _ (stp_new rel.live hn) (rel.new hn) (new_lst rel hn (ints_vals ys) (by rw [List.length_map, hp.length_eq, sizeLine_eq]; omega)) (by first | (rw [srt_uniq hp hs]; exact h) | (rw [srtI_uniq hp hs]; exact h))⟩⟩
/-! ### a, b = x, y -/
def xPar (i j : Nat) (t : TAX) : TSX := fun D G O => t G O (fun ds O1 => match ds with
  | [d, e] => gsetK G i (some d) fun G1 => gsetK G1 j (some e) fun G2 => D.nx G2 O1
  | _ => False) (fun x O1 => D.ex x G O1)
theorem rd_par {K : PySem.W.Frag} {W : WX} {i j n : Nat} {ta : TA} {t : TAX} (h : RdA K W n ta t) : RdS K W (tPar i j ta) (xPar i j t) := by
  intro al H σ G O D R rel env q e
  refine h al H σ G O _ _ _ rel env q (fun al1 H1 O1 vs ds s1 rel1 r1 _ q1 => ?_) (fun al1 H1 O1 x cls dd s1 rel1 r1 q1 => e.ex _ _ _ _ _ _ _ _ s1 rel1 (env.mono s1) r1 q1)
  match ds, r1, q1 with
  | [d, f], .cons (v := v) rv (.cons (v := w) rw' .nil), q1 =>
    have q1 : gsetK G i (some d) (fun G1 => gsetK G1 j (some f) fun G2 => D.nx G2 O1) := q1
    rw [gsetK_eq, gsetK_eq] at q1
    exact ⟨v, w, rfl, e.nx _ _ _ _ _ s1 rel1 (((env.mono s1).set rv).set rw') q1⟩
theorem psx_par {X : Cx} {W : WX} {pos : Pos} {i j : Nat} {x y : Str} {a b : Expr} {t : TAX} {px py pt : Pos} {kt k2 pt2} (hc : X.calm = true) (hN : X.N.Nodup) (hi : X.N[i]? = some x) (hj : X.N[j]? = some y) (ha : PAX X W [a, b] t)
    (hij : decide (i ≠ j) = true := by rfl) (hx : X.env.scope.names.lookup x = some .local := by rfl) (hy : X.env.scope.names.lookup y = some .local := by rfl)
    (hw : swappedStores [.Tuple [.Name x px, .Name y py] kt pt] (.Tuple [a, b] k2 pt2) X.env = pure (some [x, y]) := by rfl)
    (hs : swapsWithSole [.Tuple [.Name x px, .Name y py] kt pt] (.Tuple [a, b] k2 pt2) pos.line X.env = pure false := by rfl) :
    PSX X W (.Assign [.Tuple [.Name x px, .Name y py] kt pt] (.Tuple [a, b] k2 pt2) pos) (xPar i j t) :=
  let ⟨_, p, q⟩ := ha; ⟨_, ps_par hc hN hi hj (of_decide_eq_true hij) hx hy p hw hs, rd_par q⟩
mutual
theorem ok_up : ∀ {n : Nat} {d : D}, D.ok n d = true → D.ok (n + 1) d = true
  | _, .non, _ => by simp [D.ok]
  | _, .bl b, _ => by simp [D.ok]
  | _, .int i, _ => by simp [D.ok]
  | _, .str x, _ => by simp [D.ok]
  | n + 1, .tup ds, h => oks_up (n := n) h
  | n + 1, .lst ds, h => oks_up (n := n) h
  | 0, .tup ds, h => by cases h
  | 0, .lst ds, h => by cases h
  | 0, .own k, h => by cases h
  | n + 1, .own k, h => by cases h
  | 0, .adr k, h => by cases h
  | n + 1, .adr k, h => by cases h
theorem oks_up : ∀ {n : Nat} {ds : List D}, D.oks n ds = true → D.oks (n + 1) ds = true
  | _, [], _ => by simp [D.oks]
  | n, d :: ds, h => by
    have h' : (D.ok n d && D.oks n ds) = true := h
    rw [Bool.and_eq_true] at h'
    show (D.ok (n + 1) d && D.oks (n + 1) ds) = true
    rw [ok_up h'.1, oks_up h'.2]; rfl
end
theorem ok_mono {n m : Nat} {d : D} (hm : n ≤ m) (h : D.ok n d = true) : D.ok m d = true := by
  induction m with
  | zero => rwa [Nat.le_zero.mp hm] at h
  | succ m ih =>
    by_cases e : n = m + 1
    · rwa [e] at h
    · exact ok_up (ih (by omega))
/-- shown data is its own snapshot -/
theorem snap_ok {O : Om} {n : Nat} {d : D} (h : D.ok n d = true) : snap O d = d := by
  cases d with
  | own k => cases n <;> cases h
  | _ => rfl
theorem ok_snap {O : Om} {n : Nat} {d : D} (hn : n ≤ 20) (h : D.ok n d = true) : D.ok 20 (snap O d) = true := by
  rw [snap_ok h]; exact ok_mono hn h
theorem eq_snap {O : Om} {n : Nat} {d : D} (h : D.ok n d = true) : D.eq (snap O d) (snap O d) = true := by
  rw [snap_ok h]; exact eq_self h
end Px

namespace Px
open PySem PySem.Spec PyProof.Rows L2
/-! ### pop(i), insert(i, x) of own lists -/
theorem RpA.eraseIdx {K : PySem.W.Frag} {al : AL} {H : Hp} : ∀ {vs : List V} {ds : List D} (i : Nat), RpA K al H vs ds → RpA K al H (vs.eraseIdx i) (ds.eraseIdx i)
  | _, _, _, .nil => .nil
  | _, _, 0, .cons _ t => t
  | _, _, i + 1, .cons h t => .cons h (RpA.eraseIdx i t)
def dPopI (d : D) (ds : List D) (O : Om) (Q : QX) : Prop := match d, ds with
  | .own k, [.int i] => optK O[k]? fun c => lstK c fun es => (0 ≤ i ∧ i < es.length) ∧ i < 2 ^ 60 ∧ optK es[i.toNat]? fun e => Q e (O.set k (.lst (es.eraseIdx i.toNat)))
  | _, _ => False
def dInsert (d : D) (ds : List D) (O : Om) (Q : QX) : Prop := match d, ds with
  | .own k, [.int i, e] => optK O[k]? fun c => lstK c fun es => (0 ≤ i ∧ i < 2 ^ 60) ∧ es.length < 1000000 ∧ Q .non (O.set k (.lst (es.take i.toNat ++ [e] ++ es.drop i.toNat)))
  | _, _ => False
theorem seqIndex_of {i : Int} {n : Nat} (h0 : 0 ≤ i) (h1 : i < n) : seqIndex? i n = some i.toNat := by
  unfold seqIndex?
  first
  | (simp; omega)
  | (split <;> simp <;> omega)
section
variable {X : Cx}
theorem m_popI : MO X "list.pop" dPopI := ⟨_, mt_popAt, fun al H O x d xs ds Q R rel rx rxs h hq => by
  match d, ds, h with
  | .own k, [.int i], h =>
    obtain ⟨es, e1, ⟨h0, h1⟩, h2, h⟩ := lstK.ex h
    obtain ⟨e, e2, e3⟩ := optK.ex h
    obtain ⟨v, rfl, rv⟩ := rxs.one
    cases rv
    obtain ⟨a, ys, rfl, e4, e5, e6, e7⟩ := rx.ownL rel e1
    have s : Stp al H al (upd H a (.lst (ys.eraseIdx i.toNat))) := stp_set rel.nd e4
    obtain ⟨u, f1, f2⟩ := e7.get e2
    refine ⟨a, ys, i, i.toNat, u, rfl, rfl, e5, by omega, by omega, seqIndex_of h0 (by rw [e7.length]; exact h1), f1, ?_⟩
    exact hq _ _ _ _ _ s (rel.set (c := .lst (es.eraseIdx i.toNat)) e4 ⟨_, upd_same, Nat.le_trans (List.length_eraseIdx_le ..) e6, (e7.eraseIdx _).mono s⟩) (f2.mono s) e3⟩
theorem m_insert : MO X "list.insert" dInsert := ⟨_, mt_insert, fun al H O x d xs ds Q R rel rx rxs h hq => by
  match d, ds, h with
  | .own k, [.int i, e], h =>
    obtain ⟨es, e1, ⟨h0, h1⟩, h2, h⟩ := lstK.ex h
    obtain ⟨v, w, rfl, rv, rw'⟩ : ∃ v w, xs = [v, w] ∧ Rp X.K al H v (.int i) ∧ Rp X.K al H w e := by
      cases rxs with
      | cons r1 t => cases t with
        | cons r2 t => cases t; exact ⟨_, _, rfl, r1, r2⟩
    cases rv
    obtain ⟨a, ys, rfl, e4, e5, e6, e7⟩ := rx.ownL rel e1
    have s : Stp al H al (upd H a (.lst (ys.take i.toNat ++ [w] ++ ys.drop i.toNat))) := stp_set rel.nd e4
    have hl := e7.length
    refine ⟨a, ys, i, w, rfl, rfl, e5, by rw [hl, sizeLine_eq]; omega, h0, by omega, ?_⟩
    exact hq _ _ _ _ _ s (rel.set (c := .lst (es.take i.toNat ++ [e] ++ es.drop i.toNat)) e4 ⟨_, upd_same, by rw [List.length_append, List.length_append, List.length_take, List.length_drop, sizeLine_eq]; simp; omega, (((e7.take _).append (.cons rw' .nil)).append (e7.drop _)).mono s⟩) .non h⟩
end
end Px

namespace Px
open PySem PySem.Spec PyProof.Rows L2
/-! ### instances of the program's own classes -/
structure CF (K : PySem.W.Frag) (j : Nat) : Prop where
  cl : Cls K (clA K j)
  no : ∀ f ∈ fldsN j, NoAttr K (clA K j) f
def insK (j : Nat) (c : Cell) (Q : List D → Prop) : Prop := match c with
  | .ins i ds => xite (Nat.beq i j) (Q ds) False
  | _ => False
theorem insK.ex {j : Nat} {o : Option Cell} {Q : List D → Prop} (h : optK o fun c => insK j c Q) : ∃ ds, o = some (.ins j ds) ∧ Q ds := by
  obtain ⟨c, e, h⟩ := h.ex
  cases c with
  | ins i ds =>
    have h : xite (Nat.beq i j) (Q ds) False := h
    obtain ⟨h1, h2⟩ := xite_in h
    have h3 := Nat.eq_of_beq_eq_true h1
    subst h3
    exact ⟨ds, e, h2⟩
  | _ => exact (show False from h).elim
def setI : List D → Nat → D → List D
  | [], _, d => [d]
  | _ :: r, 0, d => d :: r
  | x :: r, i + 1, d => x :: setI r i d
def xFld (j i : Nat) (a : TX) : TX := fun G O Q E => a G O (fun d O1 => ownK d fun k => optK O1[k]? fun c => insK j c fun ds => optK ds[i]? fun v => Q v O1) E
def xSetF (j i : Nat) (to tv : TX) : TSX := fun D G O => tv G O (fun d O1 => to G O1 (fun o O2 => ownK o fun k => optK O2[k]? fun c => insK j c fun ds => i ≤ ds.length ∧ D.nx G (O2.set k (.ins j (setI ds i d)))) (fun x O2 => D.ex x G O2)) (fun x O1 => D.ex x G O1)
section
variable {K : PySem.W.Frag} {W : WX} {al : AL} {H : Hp} {O : Om}
theorem Rp.insI (rel : Rel K al H O) {v : V} {k j : Nat} {ds : List D} (r : Rp K al H v (.own k)) (h : O[k]? = some (.ins j ds)) :
    ∃ a dx vs, v = .ref a ∧ al.l[k]? = some (some (a, some dx)) ∧ H a = some (.ins (clA K j) dx vs) ∧ H dx = some (.own a) ∧ RpN K al H ((fldsN j).take ds.length) vs ds := by
  obtain ⟨o, e1, q, hv⟩ := r.ownI rel h
  match o, q with
  | some (a, some dx), ⟨vs, h1, h2, h3⟩ => exact ⟨a, dx, vs, hv _ rfl, e1, h1, h2, h3⟩
theorem lookup_at {f : Str} {v : V} : ∀ {vs : List (Str × V)} {ns : List Str} {i : Nat}, vs.map (·.1) = ns → ns.Nodup → ns[i]? = some f → (vs.map (·.2))[i]? = some v → vs.lookup f = some v
  | [], ns, i, e, _, h, _ => by subst e; simp at h
  | (g, u) :: vs, ns, i, e, nd, h, hv => by
    subst e
    cases i with
    | zero =>
      simp at h hv
      subst h hv
      simp [List.lookup]
    | succ i =>
      have nd' := List.nodup_cons.mp (show (g :: vs.map (·.1)).Nodup from nd)
      have h' : (vs.map (·.1))[i]? = some f := by simpa using h
      have hv' : (vs.map (·.2))[i]? = some v := by simpa using hv
      have ne : ¬ f = g := fun z => nd'.1 (z ▸ List.mem_of_getElem? h')
      rw [List.lookup_cons, beq_eq_false_iff_ne.mpr ne]
      exact lookup_at rfl nd'.2 h' hv'
theorem rd_fld {j i : Nat} {f : Str} (hC : CF K j) (hf : (fldsN j)[i]? = some f) (hn : (fldsN j).Nodup) {te : TE} {a : TX} (h1 : RdE K W te a) : RdE K W (tFld K te f) (xFld j i a) := by
  intro al H σ G O Q E R rel env q hq he
  refine h1 al H σ G O _ E _ rel env q (fun al1 H1 O1 v d s1 rel1 r1 q0 => ?_) he
  obtain ⟨k, rfl, q1⟩ := ownK.ex q0
  obtain ⟨ds, ek, q1⟩ := insK.ex q1
  obtain ⟨y, ey, q1⟩ := optK.ex q1
  obtain ⟨a, dx, vs, rfl, _, ha, _, hr⟩ := r1.insI rel1 ek
  obtain ⟨u, eu, ru⟩ := hr.2.get ey
  have hi : i < ds.length := (List.getElem?_eq_some_iff.mp ey).1
  refine ⟨a, clA K j, dx, vs, u, rfl, ha, hC.cl, hC.no f (List.mem_of_getElem? hf), ?_, hq _ _ _ _ _ s1 rel1 ru q1⟩
  refine lookup_at (i := i) hr.1 (hn.sublist (List.take_sublist _ _)) ?_ eu
  rw [List.getElem?_take_of_lt hi]; exact hf
theorem putF_rp {f : Str} {y : V} {d : D} (ry : Rp K al H y d) : ∀ {ds : List D} {ns : List Str} {vs : List (Str × V)} {i : Nat}, vs.map (·.1) = ns.take ds.length → RpA K al H (vs.map (·.2)) ds → ns.Nodup → ns[i]? = some f → i ≤ ds.length →
    (putF f y vs).map (·.1) = ns.take (setI ds i d).length ∧ RpA K al H ((putF f y vs).map (·.2)) (setI ds i d)
  | [], ns, vs, i, e, r, nd, hf, hi => by
    have hv : vs = [] := by
      cases vs with
      | nil => rfl
      | cons p vs => simp at e
    subst hv
    have hi0 : i = 0 := by simpa using hi
    subst hi0
    cases ns with
    | nil => simp at hf
    | cons g ns =>
      simp at hf
      subst hf
      exact ⟨rfl, .cons ry .nil⟩
  | x :: ds, ns, vs, i, e, r, nd, hf, hi => by
    cases vs with
    | nil => cases r
    | cons p vs =>
      obtain ⟨g, u⟩ := p
      cases ns with
      | nil => simp at e
      | cons g' ns =>
        have e' : g :: vs.map (·.1) = g' :: ns.take ds.length := e
        obtain ⟨rfl, e2⟩ := List.cons.inj e'
        cases r with
        | cons ru r =>
          have nd' := List.nodup_cons.mp nd
          cases i with
          | zero =>
            have hf' : g = f := by simpa using hf
            subst hf'
            refine ⟨?_, ?_⟩
            · show ((if g = g then (g, y) :: vs else _).map (·.1)) = g :: ns.take (ds.length)
              rw [if_pos rfl]; show g :: _ = _; rw [e2]
            · show RpA K al H ((if g = g then (g, y) :: vs else _).map (·.2)) (d :: ds)
              rw [if_pos rfl]; exact .cons ry r
          | succ i =>
            have hf' : ns[i]? = some f := by simpa using hf
            have ne : ¬ g = f := fun z => nd'.1 (z ▸ List.mem_of_getElem? hf')
            obtain ⟨a1, a2⟩ := putF_rp ry (i := i) e2 r nd'.2 hf' (by simpa using hi)
            refine ⟨?_, ?_⟩
            · show ((if g = f then (g, y) :: vs else (g, u) :: putF f y vs).map (·.1)) = g :: ns.take (setI ds i d).length
              rw [if_neg ne]; show g :: _ = _; rw [a1]
            · show RpA K al H ((if g = f then (g, y) :: vs else (g, u) :: putF f y vs).map (·.2)) (x :: setI ds i d)
              rw [if_neg ne]; exact .cons ru a2
theorem fldsN_len (j : Nat) : (fldsN j).length ≤ 11 := by
  unfold fldsN
  split <;> decide
theorem rd_setF {j i : Nat} {f : Str} (hC : CF K j) (hf : (fldsN j)[i]? = some f) (hn : (fldsN j).Nodup) {to tv : TE} {xo xv : TX} (ho : RdE K W to xo) (hv : RdE K W tv xv) : RdS K W (sFld K to tv f) (xSetF j i xo xv) := by
  intro al H σ G O D R rel env q e
  refine hv al H σ G O _ _ _ rel env q (fun al1 H1 O1 y d s1 rel1 ry q1 => ?_) (fun al1 H1 O1 x cls dd s1 rel1 r1 q1 => e.ex _ _ _ _ _ _ _ _ s1 rel1 (env.mono s1) r1 q1)
  refine ho al1 H1 σ G O1 _ _ _ rel1 (env.mono s1) q1 (fun al2 H2 O2 x o s2 rel2 rx q2 => ?_) (fun al2 H2 O2 x cls dd s2 rel2 r2 q2 => e.ex _ _ _ _ _ _ _ _ (s1.trans s2) rel2 (env.mono (s1.trans s2)) r2 q2)
  obtain ⟨k, rfl, q2⟩ := ownK.ex q2
  obtain ⟨ds, ek, hi, q2⟩ := insK.ex q2
  obtain ⟨a, dx, vs, rfl, hk, ha, hd, hr⟩ := rx.insI rel2 ek
  have hl : vs.length ≤ 11 := by
    have e1 := congrArg List.length hr.1
    rw [List.length_map, List.length_take] at e1
    have := fldsN_len j
    omega
  have ne : dx ≠ a := fun z => by rw [z, ha] at hd; cases hd
  have s3 : Stp al2 H2 al2 (upd H2 a (.ins (clA K j) dx (putF f y vs))) := stp_set rel2.nd hk
  refine ⟨a, clA K j, dx, vs, rfl, ha, hC.cl, hC.no f (List.mem_of_getElem? hf), by omega, e.nx _ _ _ _ _ ((s1.trans s2).trans s3) (rel2.set (c := .ins j (setI ds i d)) hk ?_) (env.mono ((s1.trans s2).trans s3)) q2⟩
  obtain ⟨b1, b2⟩ := putF_rp ((ry.mono s2).mono s3) (i := i) hr.1 (hr.2.mono s3) hn hf hi
  exact ⟨putF f y vs, upd_same, by rw [upd_ne ne]; exact hd, b1, b2⟩
end
section
variable {X : Cx} {W : WX} {e o value : Expr} {pos pos' : Pos} {t to tv : TX}
theorem px_fld {j i : Nat} {f : Str} (hC : CF X.K j) (h : PX X W e t) (hf : (fldsN j)[i]? = some f := by rfl) (hn : (fldsN j).Nodup := by decide +kernel) (hb : attributeBase e f X.env (eval e X.env) = eval e X.env := by rfl) : PX X W (.Attribute e f pos) (xFld j i t) :=
  let ⟨_, p, q⟩ := h; ⟨_, pe_fld p hb, rd_fld hC hf hn q⟩
theorem psx_fld {j i : Nat} {f : Str} (hC : CF X.K j) (ho : PX X W o to) (hv : PX X W value tv) (hf : (fldsN j)[i]? = some f := by rfl) (hn : (fldsN j).Nodup := by decide +kernel) (hs : swapsWith value (some (.Attribute o f pos')) pos.line X.env = pure false := by rfl) :
    PSX X W (.Assign [.Attribute o f pos'] value pos) (xSetF j i to tv) :=
  let ⟨_, p, q⟩ := ho; let ⟨_, p2, q2⟩ := hv; ⟨_, ps_fld p p2 hs, rd_setF hC hf hn q q2⟩
end
/-! ### methods, makings -/
structure MC (P : Program) (w : World) (K : PySem.W.Frag) (mg : Str → Option Value) (base : Heap) (j : Nat) (m : Str) (k : Nat) (ps : List Str) (dvs : List D) (T : SpX) : Prop where
  ex : ∃ f fd vs us, Meth K (clA K j) m f ∧ Binds K fd ps us ∧ Vals vs us ∧ (∀ al H, RpA K al H vs dvs) ∧ FnX P w K mg base k f fd ps T
def xMethC (j : Nat) (T : SpX) (dvs : List D) (a : TX) (t : TAX) : TX := fun G O Q E => a G O (fun d O1 => ownK d fun k => optK O1[k]? fun c => insK j c fun _ => t G O1 (fun ds O2 => T (.own k :: (ds ++ dvs)) O2 Q E) E) E
def tMethW (C : Addr) (m : Str) (sp : Sp) (dvs : List V) (E : L2.St → XK) (ta : TE) (t : TA) : TE := fun σ H Q => ta σ H fun x H1 => ∃ a dx fs, x = .ref a ∧ H1 a = some (.ins C dx fs) ∧ fs.lookup m = none ∧
  t σ H1 fun vs H2 => sp (x :: (vs ++ dvs)) H2 Q (E σ)
section
variable {X : Cx} {CX : CXT} {k : Nat} {f C : Addr} {fd : FuncData} {ps : List Str} {sp : Sp} {dvs : List V} {ds : List Value} {E : L2.St → XK} {m : Str} {pos apos : Pos} {e o : Expr} {es : List Expr} {ta : TE} {t : TA}
theorem pe_methW {pl : Sem Bool} (he : PE X o ta) (c : Cls X.K C) (hm : Meth X.K C m f) (F : FnOk X.prog X.w X.K X.mg X.base CX k f fd ps sp) (hr : Room k X.A) (hb : Binds X.K fd ps ds) (hd : Vals dvs ds) (hx : ∀ σ, PassesAt CX X σ (E σ)) (ha : PA X (e :: es) t)
    (hst : starEach (e :: es) X.env = (false, eval e X.env) :: starEach es X.env := by rfl) (hpl : (backTo pos (starEach es X.env)).any (·.1) = false := by rfl)
    (ht : eval (.Call (.Attribute o m apos) (e :: es) [] pos) X.env = (do
      let ov ← eval o X.env
      standAt apos.atName
      let (f, first) ← holding [ov] (getMethod ov m pl)
      callWith pos f first (backTo pos (starEach (e :: es) X.env)) (backToKw pos (keywordEach [] X.env))) := by rfl) :
    PE X (.Call (.Attribute o m apos) (e :: es) [] pos) (tMethW C m sp dvs E ta t) := by
  refine ⟨fun pins s σ H Q I h => ?_⟩
  refine PySem.W.methodCall_KW (pl := pl) (thn (he.run pins s σ H _ I h) fun u s1 ⟨x, H1, I1, rx, a, dx, fs, ex, ea, l, q⟩ => ?_) ht
  subst ex
  obtain rfl : u = Value.ref a := rx
  refine getmeth_ok I1 ea c hm l ?_
  refine PySem.W.callWith_K (first := [.ref a]) (h₀ := X.base) I.ok.mod.kin hm.kp (thn (ha.run pos pins s1 σ H1 _ I1 q) fun us s2 ⟨vs, H2, I2, r, q2⟩ => ⟨I2.kIn, ?_⟩) hst hpl
  exact run_fnSD (us := .ref a :: us) (vs := .ref a :: vs) F hr hb hd (hx σ) I2 (.cons rfl r) q2
theorem pe_methW0 {pl : Sem Bool} (he : PE X o ta) (c : Cls X.K C) (hm : Meth X.K C m f) (F : FnOk X.prog X.w X.K X.mg X.base CX k f fd ps sp) (hr : Room k X.A) (hb : Binds X.K fd ps ds) (hd : Vals dvs ds) (hx : ∀ σ, PassesAt CX X σ (E σ))
    (ht : eval (.Call (.Attribute o m apos) [] [] pos) X.env = (do
      let ov ← eval o X.env
      standAt apos.atName
      let (f, first) ← holding [ov] (getMethod ov m pl)
      callWith pos f first (backTo pos (starEach [] X.env)) (backToKw pos (keywordEach [] X.env))) := by rfl) :
    PE X (.Call (.Attribute o m apos) [] [] pos) (tMethW C m sp dvs E ta tNil) := by
  refine ⟨fun pins s σ H Q I h => ?_⟩
  refine PySem.W.methodCall_KW (pl := pl) (thn (he.run pins s σ H _ I h) fun u s1 ⟨x, H1, I1, rx, a, dx, fs, ex, ea, l, q⟩ => ?_) ht
  subst ex
  obtain rfl : u = Value.ref a := rx
  refine getmeth_ok I1 ea c hm l ?_
  exact PySem.W.callWith_K0 (first := [.ref a]) I1.kIn hm.kp (run_fnSD (us := [.ref a]) (vs := [.ref a]) F hr hb hd (hx σ) I1 (.cons rfl .nil) q)
end
theorem lookup_no {m : Str} : ∀ {vs : List (Str × V)}, m ∉ vs.map (·.1) → vs.lookup m = none
  | [], _ => rfl
  | (g, u) :: vs, h => by
    have h' : ¬ m = g ∧ m ∉ vs.map (·.1) := by simpa using h
    rw [List.lookup_cons, beq_eq_false_iff_ne.mpr h'.1]
    exact lookup_no h'.2
theorem rd_methC {K : PySem.W.Frag} {W : WX} {j n : Nat} {m : Str} {T : SpX} {vs : List V} {dvs : List D} (hm : m ∉ fldsN j) (hd : ∀ al H, RpA K al H vs dvs) {ta : TE} {t : TA} {a : TX} {xt : TAX} (ha : RdE K W ta a) (ht : RdA K W n t xt) :
    RdE K W (tMethW (clA K j) m (spX K T) vs (WE W) ta t) (xMethC j T dvs a xt) := by
  intro al H σ G O Q E R rel env q hq he
  refine ha al H σ G O _ E _ rel env q (fun al1 H1 O1 v d s1 rel1 r1 q0 => ?_) he
  obtain ⟨k, rfl, q1⟩ := ownK.ex q0
  obtain ⟨ds, ek, q1⟩ := insK.ex q1
  obtain ⟨a, dx, fs, rfl, hk, hH, _, hr⟩ := r1.insI rel1 ek
  refine ⟨a, dx, fs, rfl, hH, lookup_no (by rw [hr.1]; exact fun z => hm (List.mem_of_mem_take z)), ?_⟩
  refine ht al1 H1 σ G O1 _ E _ rel1 (env.mono s1) q1 (fun al2 H2 O2 xs es s2 rel2 r2 hl q2 => ?_) (fun _ _ _ _ _ _ s' => he _ _ _ _ _ _ (s1.trans s'))
  exact ⟨al2, O2, .own k :: (es ++ dvs), Q, E, rel2, .cons (r1.mono s2) (r2.append (hd _ _)), q2, fun _ _ _ _ _ s' => hq _ _ _ _ _ ((s1.trans s2).trans s'), fun _ _ _ _ _ _ s' => he _ _ _ _ _ _ ((s1.trans s2).trans s')⟩
section
variable {X : Cx} {W : WX} {k l j : Nat} {ps : List Str} {T : SpX} {dvs : List D} {m : Str} {apos pos : Pos} {e o : Expr} {es : List Expr} {a : TX} {t : TAX} {pl : Sem Bool}
theorem px_meth (C : MC X.prog X.w X.K X.mg X.base j m k ps dvs T) (hC : CF X.K j) (hr : Room l X.A) (tk : Takes X W) (ho : PX X W o a) (ha : PAX X W (e :: es) t) (hm : m ∉ fldsN j := by decide +kernel) (hk : decide (k ≤ l) = true := by rfl)
    (hst : starEach (e :: es) X.env = (false, eval e X.env) :: starEach es X.env := by rfl) (hpl : (backTo pos (starEach es X.env)).any (·.1) = false := by rfl)
    (ht : eval (.Call (.Attribute o m apos) (e :: es) [] pos) X.env = (do
      let ov ← eval o X.env
      standAt apos.atName
      let (f, first) ← holding [ov] (getMethod ov m pl)
      callWith pos f first (backTo pos (starEach (e :: es) X.env)) (backToKw pos (keywordEach [] X.env))) := by rfl) :
    PX X W (.Call (.Attribute o m apos) (e :: es) [] pos) (xMethC j T dvs a t) :=
  let ⟨_, _, _, _, hM, hb, hv, hd, F⟩ := C.ex; let ⟨_, p, q⟩ := ho; let ⟨_, p2, q2⟩ := ha
  ⟨_, pe_methW p hC.cl hM F (hr.mono (of_decide_eq_true hk)) hb hv (fun σ => passAt tk σ) p2 hst hpl ht, rd_methC hm hd q q2⟩
theorem px_meth0 (C : MC X.prog X.w X.K X.mg X.base j m k ps dvs T) (hC : CF X.K j) (hr : Room l X.A) (tk : Takes X W) (ho : PX X W o a) (hm : m ∉ fldsN j := by decide +kernel) (hk : decide (k ≤ l) = true := by rfl)
    (ht : eval (.Call (.Attribute o m apos) [] [] pos) X.env = (do
      let ov ← eval o X.env
      standAt apos.atName
      let (f, first) ← holding [ov] (getMethod ov m pl)
      callWith pos f first (backTo pos (starEach [] X.env)) (backToKw pos (keywordEach [] X.env))) := by rfl) :
    PX X W (.Call (.Attribute o m apos) [] [] pos) (xMethC j T dvs a xNil) :=
  let ⟨_, _, _, _, hM, hb, hv, hd, F⟩ := C.ex; let ⟨_, p, q⟩ := ho
  ⟨_, pe_methW0 p hC.cl hM F (hr.mono (of_decide_eq_true hk)) hb hv (fun σ => passAt tk σ) ht, rd_methC hm hd q rd_nil⟩
end
structure MkC (P : Program) (w : World) (K : PySem.W.Frag) (mg : Str → Option Value) (base : Heap) (x : Str) (j : Nat) (k : Nat) (ps : List Str) (dvs : List D) (T : SpX) : Prop where
  ex : ∃ f fd vs us, mg x = some (.ref (clA K j)) ∧ Mk K (clA K j) f ∧ Binds K fd ps us ∧ Vals vs us ∧ (∀ al H, RpA K al H vs dvs) ∧ FnX P w K mg base k f fd ps T
def xMake (j : Nat) (T : SpX) (dvs : List D) (t : TAX) : TX := fun G O Q E => t G O (fun ds O1 => T (.own O1.length :: (ds ++ dvs)) (O1 ++ [.ins j []]) (fun d O2 => d = .non ∧ Q (.own O1.length) O2) E) E
def tMakeW (C : Addr) (sp : Sp) (dvs : List V) (E : L2.St → XK) (t : TA) : TE := fun σ H Q => t σ H fun vs H1 => ∀ x dx, H1 x = none → H1 dx = none → dx ≠ x →
  sp (.ref x :: (vs ++ dvs)) (upd (upd H1 dx (.own x)) x (.ins C dx [])) (fun v H2 => v = .non ∧ Q (.ref x) H2) (E σ)
section
variable {X : Cx} {CX : CXT} {k : Nat} {f C : Addr} {fd : FuncData} {ps : List Str} {sp : Sp} {dvs : List V} {ds : List Value} {E : XK} {E' : L2.St → XK} {x : Str} {p pos : Pos} {e : Expr} {es : List Expr} {t : TA}
theorem run_makeW {pins : List (Addr × Obj)} {σ : L2.St} {H : Hp} {s : Shared} {Q : VK} {us : List Value} {vs : List V} (M : Mk X.K C f) (F : FnOk X.prog X.w X.K X.mg X.base CX k f fd ps sp) (hr : Room (k + 1) X.A) (hb : Binds X.K fd ps ds) (hd : Vals dvs ds)
    (hx : PassesAt CX X σ E) (I : Inv X pins σ H s) (r : Vals vs us)
    (h : ∀ x dx, H x = none → H dx = none → dx ≠ x → sp (.ref x :: (vs ++ dvs)) (upd (upd H dx (.own x)) x (.ins C dx [])) (fun v H2 => v = .non ∧ Q (.ref x) H2) E) :
    wpAny (model X.prog X.w) X.A (call (.ref C) us) (EP X pins σ Q) X.xe s := by
  have hq := h (s.heap.objs.size + 1) s.heap.objs.size (I.hok.fresh (Nat.le_succ _)) (I.hok.fresh (Nat.le_refl _)) (Nat.ne_of_lt (Nat.lt_succ_self _))
  have I2 := Inv.made (C := C) I
  have r2 : Vals (V.ref (s.heap.objs.size + 1) :: (vs ++ dvs)) (Value.ref (s.heap.objs.size + 1) :: (us ++ ds)) := .cons rfl (r.append hd)
  have hl : (Value.ref (s.heap.objs.size + 1) :: us ++ ds).length = ps.length := by
    have e := r2.length
    rw [F.len _ _ _ _ hq] at e
    exact e.symm
  refine wpAny_call (make_map (f := f) I.kIn M.makes M.init (beq_iff_eq.mp M.fn) (codeAny_mono (F.run _ X.stack _ _ ⟨Value.ref (s.heap.objs.size + 1) :: us, []⟩ (Value.ref (s.heap.objs.size + 1) :: (us ++ ds)) _ _ E (hr.make C us [])
    (I2.env0.make C us []) (hb _ (Value.ref (s.heap.objs.size + 1) :: us) I2.kIn hl) r2 hq) fun r s' hq' => ?_))
  cases r with
  | error e => exact hx pins _ _ e s' I2 hq'
  | ok fl =>
    cases fl with
    | ret u =>
      obtain ⟨v, H', I3, rv, ev, q3⟩ := I2.after hq'
      subst ev
      exact ⟨rv, ⟨V.ref (s.heap.objs.size + 1), H', I3, rfl, q3⟩⟩
    | next => exact False.elim hq'
    | brk => exact False.elim hq'
    | cont => exact False.elim hq'
theorem pe_makeW (M : Mk X.K C f) (F : FnOk X.prog X.w X.K X.mg X.base CX k f fd ps sp) (hr : Room (k + 1) X.A) (hg : Gl X x) (hm : X.mg x = some (.ref C)) (hb : Binds X.K fd ps ds) (hd : Vals dvs ds) (hx : ∀ σ, PassesAt CX X σ (E' σ))
    (ha : PA X (e :: es) t) (hdb : (x == ("__debug__" : Str)) = false := by decide) (he : starEach (e :: es) X.env = (false, eval e X.env) :: starEach es X.env := by rfl) (hpl : (backTo pos (starEach es X.env)).any (·.1) = false := by rfl) :
    PE X (.Call (.Name x p) (e :: es) [] pos) (tMakeW C sp dvs E' t) := by
  refine ⟨fun pins s σ H Q I h => ?_⟩
  refine wpAny_Call_Name_kw (ld_glob I hg hm ?_ hdb)
  refine PySem.W.callWith_K (h₀ := X.base) I.ok.mod.kin M.kp (thn (ha.run pos pins s σ H _ I h) fun us s1 ⟨vs, H1, I1, r, q⟩ => ⟨I1.kIn, ?_⟩) he hpl
  exact run_makeW M F hr hb hd (hx σ) I1 r q
theorem pe_makeW0 (M : Mk X.K C f) (F : FnOk X.prog X.w X.K X.mg X.base CX k f fd ps sp) (hr : Room (k + 1) X.A) (hg : Gl X x) (hm : X.mg x = some (.ref C)) (hb : Binds X.K fd ps ds) (hd : Vals dvs ds) (hx : ∀ σ, PassesAt CX X σ (E' σ))
    (hdb : (x == ("__debug__" : Str)) = false := by decide) : PE X (.Call (.Name x p) [] [] pos) (tMakeW C sp dvs E' tNil) := by
  refine ⟨fun pins s σ H Q I h => ?_⟩
  refine wpAny_Call_Name_kw (ld_glob I hg hm ?_ hdb)
  exact PySem.W.callWith_K0 I.kIn M.kp (run_makeW (us := []) M F hr hb hd (hx σ) I .nil h)
end
section
variable {K : PySem.W.Frag} {W : WX} {al : AL} {H : Hp} {O : Om}
theorem stp_own2 {x dx : Addr} {u w : HO} (hl : ∀ a, a ∈ fp al → H a ≠ none) (hx : H x = none) (hd : H dx = none) (ne : dx ≠ x) : Stp al H (al.add (some (x, some dx))) (upd (upd H dx u) x w) := by
  have nn : ∀ {a o}, H a = some o → a ≠ x ∧ a ≠ dx := fun {a o} e => ⟨ne_of_none e hx, ne_of_none e hd⟩
  have kp : ∀ a o, H a = some o → upd (upd H dx u) x w a = some o := fun a o e => by rw [upd_ne (nn e).1, upd_ne (nn e).2]; exact e
  refine Stp.mk' (fun k o h => .inl ?_) (fun a ha => ?_) (fun a o _ e => kp a o e) (fun a ha => ?_) rfl (fun a ha => ?_)
  · rw [add_get (List.getElem?_eq_some_iff.mp h).1]; exact h
  · rw [fp_add] at ha
    rcases List.mem_append.mp ha with ha | ha
    · exact .inl ha
    · have ha' : a = x ∨ a = dx := by simpa [fpo] using ha
      rcases ha' with e | e <;> rw [e]
      · exact .inr hx
      · exact .inr hd
  · cases q : H a with
    | none => exact absurd q ha
    | some o => rw [kp a o q]; simp
  · have hn : a ∈ fp al := List.mem_append_left _ ha
    cases q : H a with
    | none => exact absurd q (hl a hn)
    | some o => rw [kp a o q]
theorem Rel.own2 (rel : Rel K al H O) {x dx : Addr} {u w : HO} {c : Cell} (hx : H x = none) (hd : H dx = none) (ne : dx ≠ x) (hc : CellOk K (al.add (some (x, some dx))) (upd (upd H dx u) x w) c (some (x, some dx))) (hu : ∀ xs : List V, u ≠ .tup xs := by intro _ e; cases e) (hw : ∀ xs : List V, w ≠ .tup xs := by intro _ e; cases e) :
    Rel K (al.add (some (x, some dx))) (upd (upd H dx u) x w) (O ++ [c]) := by
  have s := stp_own2 (u := u) (w := w) rel.live hx hd ne
  have e1 : fp (al.add (some (x, some dx))) = fp al ++ [x, dx] := fp_add
  have kp : ∀ a o, H a = some o → upd (upd H dx u) x w a = some o := fun a o e => by rw [upd_ne (ne_of_none e hx), upd_ne (ne_of_none e hd)]; exact e
  refine ⟨by show (al.l ++ [_]).length = _; rw [List.length_append, List.length_append, rel.len]; rfl, ?_, fun a ha => ?_, fun a ha => ?_, fun k c' hk => ?_⟩
  · rw [e1]
    refine List.nodup_append.mpr ⟨rel.nd, by simp [Ne.symm ne], fun a ha b hb => ?_⟩
    have hb' : b = x ∨ b = dx := by simpa using hb
    rcases hb' with e | e <;> rw [e] <;> intro z <;> subst z
    · exact rel.fresh hx ha
    · exact rel.fresh hd ha
  · rw [e1] at ha
    rcases List.mem_append.mp ha with ha | ha
    · exact s.there a (rel.live a ha)
    · have ha' : a = x ∨ a = dx := by simpa using ha
      rcases ha' with e | e <;> rw [e]
      · rw [upd_same]; simp
      · rw [upd_ne ne, upd_same]; simp
  · intro xs z
    by_cases e2 : a = x
    · subst e2; rw [upd_same] at z; cases z; exact hw _ rfl
    · rw [upd_ne e2] at z
      by_cases e3 : a = dx
      · subst e3; rw [upd_same] at z; cases z; exact hu _ rfl
      · rw [upd_ne e3] at z
        rw [e1] at ha
        rcases List.mem_append.mp ha with ha | ha
        · exact rel.nt a ha xs z
        · have ha' : a = x ∨ a = dx := by simpa using ha
          rcases ha' with e | e
          · exact e2 e
          · exact e3 e
  · by_cases hlt : k < O.length
    · rw [List.getElem?_append_left hlt] at hk
      obtain ⟨o', e, q⟩ := rel.ok k c' hk
      exact ⟨o', by rw [add_get (by rw [rel.len]; exact hlt)]; exact e, q.mono s fun a _ u' => kp a u'⟩
    · rw [List.getElem?_append_right (Nat.le_of_not_lt hlt)] at hk
      have hz : k - O.length = 0 := by
        have := (List.getElem?_eq_some_iff.mp hk).1
        simp at this; omega
      have hk2 : k = al.l.length := by rw [rel.len]; omega
      rw [hz] at hk
      cases hk
      exact ⟨_, by rw [hk2]; exact add_new, hc⟩
theorem rd_make {j n : Nat} {T : SpX} {vs : List V} {dvs : List D} (hd : ∀ al H, RpA K al H vs dvs) {t : TA} {xt : TAX} (ht : RdA K W n t xt) : RdE K W (tMakeW (clA K j) (spX K T) vs (WE W) t) (xMake j T dvs xt) := by
  intro al H σ G O Q E R rel env q hq he
  refine ht al H σ G O _ E _ rel env q (fun al1 H1 O1 xs es s1 rel1 r1 hl q1 => ?_) he
  intro x dx nx ndx ne
  have s2 := stp_own2 (u := .own x) (w := .ins (clA K j) dx []) rel1.live nx ndx ne
  have rel2 := rel1.own2 (u := .own x) (w := .ins (clA K j) dx []) (c := .ins j []) nx ndx ne ⟨[], upd_same, by rw [upd_ne ne, upd_same], rfl, .nil⟩
  have rv : Rp K (al1.add (some (x, some dx))) (upd (upd H1 dx (.own x)) x (.ins (clA K j) dx [])) (.ref x) (.own O1.length) := by rw [← rel1.len]; exact own_new
  refine ⟨_, O1 ++ [.ins j []], .own O1.length :: (es ++ dvs), _, E, rel2, .cons rv ((r1.mono s2).append (hd _ _)), q1, fun al3 H3 O3 v d s3 rel3 r3 q3 => ?_, fun _ _ _ _ _ _ s' => he _ _ _ _ _ _ ((s1.trans s2).trans s')⟩
  obtain ⟨rfl, q3⟩ := q3
  cases r3
  exact ⟨rfl, hq _ _ _ _ _ ((s1.trans s2).trans s3) rel3 (rv.mono s3) q3⟩
end
section
variable {X : Cx} {W : WX} {k l j : Nat} {ps : List Str} {T : SpX} {dvs : List D} {x : Str} {p pos : Pos} {e : Expr} {es : List Expr} {t : TAX}
theorem px_make (C : MkC X.prog X.w X.K X.mg X.base x j k ps dvs T) (hr : Room l X.A) (tk : Takes X W) (ha : PAX X W (e :: es) t) (hg : Gl X x := by rfl) (hk : decide (k + 1 ≤ l) = true := by rfl)
    (hdb : (x == ("__debug__" : Str)) = false := by decide) (he : starEach (e :: es) X.env = (false, eval e X.env) :: starEach es X.env := by rfl) (hpl : (backTo pos (starEach es X.env)).any (·.1) = false := by rfl) :
    PX X W (.Call (.Name x p) (e :: es) [] pos) (xMake j T dvs t) :=
  let ⟨_, _, _, _, hm, hM, hb, hv, hd, F⟩ := C.ex; let ⟨_, p2, q2⟩ := ha
  ⟨_, pe_makeW hM F (hr.mono (of_decide_eq_true hk)) hg hm hb hv (fun σ => passAt tk σ) p2 hdb he hpl, rd_make hd q2⟩
theorem px_make0 (C : MkC X.prog X.w X.K X.mg X.base x j k ps dvs T) (hr : Room l X.A) (tk : Takes X W) (hg : Gl X x := by rfl) (hk : decide (k + 1 ≤ l) = true := by rfl)
    (hdb : (x == ("__debug__" : Str)) = false := by decide) : PX X W (.Call (.Name x p) [] [] pos) (xMake j T dvs xNil) :=
  let ⟨_, _, _, _, hm, hM, hb, hv, hd, F⟩ := C.ex
  ⟨_, pe_makeW0 hM F (hr.mono (of_decide_eq_true hk)) hg hm hb hv (fun σ => passAt tk σ) hdb, rd_make hd rd_nil⟩
end
end Px

namespace Px
open PySem PySem.Spec PyProof.Rows L2
/-! ### dict.update(list of pairs), dict(list of pairs) -/
section
variable {X : Cx}
theorem pairs_of2 {pins : List (Addr × Obj)} {σ : L2.St} {H : Hp} {s : Shared} (I : Inv X pins σ H s) : ∀ {ps : List Addr} {kvs : List (Key × V)}, Paired (fun p kv => SqT X.K H p [kV kv.1, kv.2]) ps kvs →
    ∃ (qs : List (Value × Value)) (prs : List (Key × Value)), KV kvs prs ∧ qs.length = ps.length ∧ prs.length = ps.length ∧ ∀ (j : Nat) (k v : Value), qs[j]? = some (k, v) → ∃ (b : Addr) (key : Key), ps[j]? = some b ∧ PairAt s.heap b k v ∧ prs[j]? = some (key, v) ∧ (mixKind X.prog X.w).is key k = true
  | _, _, .nil => ⟨[], [], .nil, rfl, rfl, fun j k v e => by simp at e⟩
  | _, _, .cons (a := p) (b := kv) h t => by
    obtain ⟨qs, prs, r, hl, hl2, hp⟩ := pairs_of2 I t
    obtain ⟨its, rv, ht, _⟩ := I.tuple h
    obtain ⟨u, y, ei, ru, ry⟩ := vals2 rv
    subst ei
    refine ⟨(u, y) :: qs, (kv.1, y) :: prs, .cons ⟨rfl, ry⟩ r, by rw [List.length_cons, List.length_cons, hl], by rw [List.length_cons, List.length_cons, hl2], fun j k v e => ?_⟩
    cases j with
    | zero =>
      have e' : (u, y) = (k, v) := Option.some.inj e
      cases e'
      exact ⟨p, kv.1, rfl, .inl ht, rfl, kV_is ru⟩
    | succ j =>
      obtain ⟨b, key, e1, e2, e3, e4⟩ := hp j k v (by simpa using e)
      exact ⟨b, key, by simpa using e1, e2, by simpa using e3, e4⟩
def rUpdP (K : PySem.W.Frag) : V → List V → Hp → VK → Prop := fun x xs H Q => ∃ (d a : Addr) (acc : List (Key × V)) (ps : List Addr) (kvs : List (Key × V)), x = .ref d ∧ xs = [.ref a] ∧ H d = some (.dK acc) ∧ SqL K H a (ps.map V.ref) ∧
  Paired (fun p kv => SqT K H p [kV kv.1, kv.2]) ps kvs ∧ acc.length + kvs.length ≤ sizeLine ∧ Q .non (upd H d (.dK (mergeK acc kvs)))
theorem mt_updP (hcalm : X.calm = true) : MtR X "dict.update" (rUpdP X.K) := by
  intro pins s σ H x xs v us Q I rx rxs h
  obtain ⟨d, a, acc, ps, kvs, rfl, rfl, hd, hq, hp, hz, q⟩ := h
  cases rx
  obtain ⟨u, rfl, ru⟩ := rxs.one
  cases ru
  obtain ⟨its, rv, pl, hlz⟩ := I.list hq
  have ei := refs_at rv
  subst ei
  obtain ⟨zd, hsys, vs, rel, dd⟩ := dk_of I.hok hd
  obtain ⟨qs, prs, relp, hl, hl2, hpr⟩ := pairs_of2 I hp
  have hlk : prs.length = kvs.length := relp.length.symm
  obtain ⟨od, esd, epd, hod, hcd, hrest⟩ := id dd
  have P := PairArg.list (prog := X.prog) (w := X.w) a (ps.map Value.ref).toArray (fun j => ps.getD j 0) qs
  obtain ⟨o, n, ho, hc, hod', hdat⟩ := pl
  have hgd : ∀ {j : Nat} {b : Addr}, ps[j]? = some b → ps.getD j 0 = b := fun {j b} e => by
    rw [List.getD_eq_getElem?_getD, e]; rfl
  have hit : PairItems s.heap (ps.map Value.ref).toArray (fun j => ps.getD j 0) qs := by
    refine ⟨by simp [hl], fun j k v e => ?_⟩
    obtain ⟨b, key, e1, e2, _, _⟩ := hpr j k v e
    have e3 := hgd e1
    show (ps.map Value.ref).toArray[j]? = some (.ref (ps.getD j 0)) ∧ PairAt s.heap (ps.getD j 0) k v
    rw [e3]
    exact ⟨by simp [e1], e2⟩
  have hdcls : ∃ ob, s.heap.get? d = some ob ∧ ob.cls = .type "dict" := by
    obtain ⟨ob, h1, h2⟩ := dd.typeIs
    exact ⟨ob, h1, h2⟩
  obtain ⟨ob, hob, hobc⟩ := hdcls
  have hdf : d ∉ a :: (List.range qs.length).map (fun j => ps.getD j 0) := fun hm => by
    rcases List.mem_cons.mp hm with e | hm
    · rw [← e, hob] at ho
      cases ho
      rw [hobc] at hc
      exact absurd (Value.type.inj hc) (by decide)
    · obtain ⟨j, hj, e⟩ := List.mem_map.mp hm
      have hj' := List.mem_range.mp hj
      obtain ⟨⟨k, v⟩, eq⟩ : ∃ p, qs[j]? = some p := ⟨qs[j], List.getElem?_eq_getElem hj'⟩
      obtain ⟨o2, h1, h2⟩ := (hit.2 j k v eq).2.there
      have e : ps.getD j 0 = d := e
      have h1 : s.heap.get? (ps.getD j 0) = some o2 := h1
      rw [e, hob] at h1
      cases h1
      rcases h2 with h2 | h2 <;> (rw [hobc] at h2; exact absurd (Value.type.inj h2) (by decide))
  have hlen : vs.length = acc.length := rel.length.symm
  refine call_update_pairs (knd := mixKind X.prog X.w) (kvs := prs) P (I.ok.hd hcalm) ⟨⟨o, n, ho, hc, hod', hdat⟩, hit⟩ hdf ⟨by rw [hl2, hl], fun i key v e => ?_⟩ dd (by rw [hlen, hl, ← hl2, hlk]; exact hz) fun h' tk hd' k => ?_
  · obtain ⟨b, key', _, _, e3, e4⟩ := hpr i key v e
    exact ⟨key', e3, e4⟩
  · have hlen2 : (mergeK acc kvs).length ≤ sizeLine := Nat.le_trans (length_mergeK kvs acc) hz
    have he : ∃ q, h'.get? d = some q := by
      obtain ⟨q, _, _, h1, _⟩ := id hd'
      exact ⟨q, h1⟩
    refine ⟨.non, upd H d (.dK (mergeK acc kvs)), I.write (t' := tk) (x := d) (e := d) (by rw [hd]; exact True.intro) (.inl rfl) (fun b u hb e => k b u hb (by simp) e) he (dk_new hlen2 hsys (KV.merge relp rel) hd'), rfl, q⟩
end
def D.pairs : List D → Option (List (Key × D))
  | [] => some []
  | .tup [a, b] :: r => match keyD a, D.pairs r with
    | some k, some kvs => some ((k, b) :: kvs)
    | _, _ => none
  | _ => none
theorem pairs_rp {K : PySem.W.Frag} {al : AL} {H : Hp} : ∀ {es : List D} {kvs : List (Key × D)} {xs : List V}, D.pairs es = some kvs → RpA K al H xs es →
    ∃ (ps : List Addr) (vs : List (Key × V)), xs = ps.map V.ref ∧ Paired (fun p kv => SqT K H p [kV kv.1, kv.2]) ps vs ∧ RpK K al H vs kvs
  | [], kvs, xs, e, r => by cases e; cases r; exact ⟨[], [], rfl, .nil, rfl, .nil⟩
  | .tup [a, b] :: es, kvs, xs, e, r => by
    have e' : (match keyD a, D.pairs es with | some k, some kvs => some ((k, b) :: kvs) | _, _ => none) = some kvs := e
    split at e'
    · rename_i k ks e1 e2
      cases e'
      cases r with
      | cons r1 r2 =>
        obtain ⟨p, ys, rfl, hs, hr, _⟩ := r1.tupI
        cases hr with
        | cons ra hr => cases hr with
          | cons rb hr =>
            cases hr
            obtain ⟨ps, vs, rfl, hp, hk⟩ := pairs_rp e2 r2
            have ek := key_rp ra e1
            subst ek
            exact ⟨p :: ps, (k, _) :: vs, rfl, .cons hs hp, .cons rfl rb hk⟩
    · cases e'
theorem pairsD_len : ∀ {es : List D} {kvs : List (Key × D)}, D.pairs es = some kvs → kvs.length = es.length
  | [], kvs, e => by cases e; rfl
  | .tup [a, b] :: es, kvs, e => by
    have e' : (match keyD a, D.pairs es with | some k, some kvs => some ((k, b) :: kvs) | _, _ => none) = some kvs := e
    split at e'
    · rename_i k ks e1 e2
      cases e'
      rw [List.length_cons, List.length_cons, pairsD_len e2]
    · cases e'
def dUpd (d : D) (ds : List D) (O : Om) (Q : QX) : Prop := match d, ds with
  | .own k, [e] => optK O[k]? fun c => dKK c fun acc => optK (lstD O e) fun es => optK (D.pairs es) fun kvs => acc.length + kvs.length ≤ 1000000 ∧ Q .non (O.set k (.dK (mergeD acc kvs)))
  | _, _ => False
theorem m_dupd {X : Cx} (hc : X.calm = true) : MO X "dict.update" dUpd := ⟨_, mt_updP hc, fun al H O x d xs ds Q R rel rx rxs h hq => by
  match d, ds, h with
  | .own k, [e], h =>
    obtain ⟨acc, e1, h⟩ := dKK.ex h
    obtain ⟨es, e2, h⟩ := optK.ex h
    obtain ⟨kvs, e3, hl, h⟩ := optK.ex h
    obtain ⟨v, rfl, rv⟩ := rxs.one
    obtain ⟨a, ys, rfl, hs, hr, _⟩ := lstD_rp rel rv e2
    obtain ⟨ps, vs, rfl, hp, hk⟩ := pairs_rp e3 hr
    obtain ⟨o, f1, q, hv⟩ := rx.ownI rel e1
    match o, q with
    | some (p, none), ⟨ws, g1, g2⟩ =>
      obtain rfl := hv _ rfl
      have s : Stp al H al (upd H p (.dK (mergeK ws vs))) := stp_set rel.nd f1
      refine ⟨p, a, ws, ps, vs, rfl, rfl, g1, hs, hp, by rw [g2.len, hk.len, sizeLine_eq]; omega, ?_⟩
      exact hq _ _ _ _ _ s (rel.set (c := .dK (mergeD acc kvs)) f1 ⟨_, upd_same, (RpK.merge hk g2).mono0 s.toStp0⟩) .non h⟩
def dDictP (ds : List D) (O : Om) (Q : QX) : Prop := match ds with
  | [e] => optK (lstD O e) fun es => optK (D.pairs es) fun kvs => Q (.own O.length) (O ++ [.dK (mergeD [] kvs)])
  | _ => False
theorem f_dictP {X : Cx} (hc : X.calm = true) : FO X (.type "dict") dDictP := ⟨_, call_dictP hc, fun al H O xs ds Q R rel r h hq => by
  match ds, h with
  | [e], h =>
    obtain ⟨es, e2, h⟩ := optK.ex h
    obtain ⟨kvs, e3, h⟩ := optK.ex h
    obtain ⟨v, rfl, rv⟩ := r.one
    obtain ⟨a, ys, rfl, hs, hr, _⟩ := lstD_rp rel rv e2
    obtain ⟨ps, vs, rfl, hp, hk⟩ := pairs_rp e3 hr
    refine ⟨a, ps, vs, rfl, hs, hp, fun p hn => ?_⟩
    have s := stp_own (o := .dK (mergeK [] vs)) rel.live hn
    have hk2 : RpK X.K al H (mergeK [] vs) (mergeD [] kvs) := RpK.merge hk ⟨rfl, .nil⟩
    refine hq _ _ _ _ _ s (rel.own (c := .dK (mergeD [] kvs)) hn ⟨_, upd_same, hk2.mono0 s.toStp0⟩) ?_ h
    rw [← rel.len]
    exact own_new⟩
/-- the keys, all texts; all ints -/
def keysS : List Key → Option (List Str)
  | [] => some []
  | .inr x :: r => (keysS r).map (x :: ·)
  | _ => none
def keysI : List Key → Option (List Int)
  | [] => some []
  | .inl x :: r => (keysI r).map (x :: ·)
  | _ => none
theorem keysS_eq : ∀ {ks : List Key} {xs : List Str}, keysS ks = some xs → ks = xs.map .inr
  | [], xs, h => by cases h; rfl
  | .inr x :: r, xs, h => by
    obtain ⟨ys, e, rfl⟩ := Option.map_eq_some_iff.mp (show (keysS r).map (x :: ·) = some xs from h)
    rw [keysS_eq e]; rfl
theorem keysI_eq : ∀ {ks : List Key} {xs : List Int}, keysI ks = some xs → ks = xs.map .inl
  | [], xs, h => by cases h; rfl
  | .inl x :: r, xs, h => by
    obtain ⟨ys, e, rfl⟩ := Option.map_eq_some_iff.mp (show (keysI r).map (x :: ·) = some xs from h)
    rw [keysI_eq e]; rfl
def dSrtDS (ds : List D) (O : Om) (Q : QX) : Prop := match ds with
  | [d] => ownK d fun k => optK O[k]? fun c => dKK c fun kvs => optK (keysS (kvs.map (·.1))) fun ks => ks.length < 64 ∧ (∀ x ∈ ks, SOk x) ∧ Q (.lst ((sortS ks).map .str)) O
  | _ => False
theorem f_sortDS {X : Cx} (hc : X.calm = true) : FO X (.builtin "sorted") dSrtDS := ⟨_, call_sortedD hc, fun al H O xs ds Q R rel r h hq => by
  match ds, h with
  | [d], h =>
    obtain ⟨k, rfl, h⟩ := ownK.ex h
    obtain ⟨kvs, ek, h⟩ := dKK.ex h
    obtain ⟨ks, e3, hl, hs, h⟩ := optK.ex h
    obtain ⟨v, rfl, rv⟩ := r.one
    obtain ⟨o, f1, q, hv⟩ := rv.ownI rel ek
    match o, q with
    | some (p, none), ⟨ws, g1, g2⟩ =>
      obtain rfl := hv _ rfl
      refine ⟨p, ws, ks, rfl, .inl g1, g2.1.trans (keysS_eq e3), hl, fun ys p' hp ho hn => ?_⟩
      exact hq _ _ _ _ _ (stp_new rel.live hn) (rel.new hn) (new_lst rel hn (strsR fun y hy => hs y (hp.mem_iff.mp hy)) (by rw [List.length_map, hp.length_eq, sizeLine_eq]; omega)) (by rw [srt_uniq hp ho]; exact h)⟩
def dSrtDI (ds : List D) (O : Om) (Q : QX) : Prop := match ds with
  | [d] => ownK d fun k => optK O[k]? fun c => dKK c fun kvs => optK (keysI (kvs.map (·.1))) fun ks => ks.length < 64 ∧ Q (.lst ((sortI ks).map .int)) O
  | _ => False
theorem f_sortDI {X : Cx} (hc : X.calm = true) : FO X (.builtin "sorted") dSrtDI := ⟨_, call_sortedDI hc, fun al H O xs ds Q R rel r h hq => by
  match ds, h with
  | [d], h =>
    obtain ⟨k, rfl, h⟩ := ownK.ex h
    obtain ⟨kvs, ek, h⟩ := dKK.ex h
    obtain ⟨ks, e3, hl, h⟩ := optK.ex h
    obtain ⟨v, rfl, rv⟩ := r.one
    obtain ⟨o, f1, q, hv⟩ := rv.ownI rel ek
    match o, q with
    | some (p, none), ⟨ws, g1, g2⟩ =>
      obtain rfl := hv _ rfl
      refine ⟨p, ws, ks, rfl, .inl g1, g2.1.trans (keysI_eq e3), hl, fun ys p' hp ho hn => ?_⟩
      exact hq _ _ _ _ _ (stp_new rel.live hn) (rel.new hn) (new_lst rel hn (ints_vals ys) (by rw [List.length_map, hp.length_eq, sizeLine_eq]; omega)) (by rw [srtI_uniq hp ho]; exact h)⟩
end Px

namespace Px
open PySem PySem.Spec PyProof.Rows L2

/-! ### a dict is locked while it is walked -/
def lockT (c : Cell) (t : Cell → Prop) : Prop := match c with
  | .dK kvs => ∀ o vs, t (.fzK o vs kvs)
  | .dT kvs => ∀ o vs, t (.fzT o vs kvs)
  | _ => False
def xLock (t : TSX) : TSX := fun D G O => ∃ k, optK O[k]? fun c => lockT c fun z => t { nx := fun G' O' => O'[k]? = some z ∧ D.nx G' (O'.set k c), rt := fun d O' => O'[k]? = some z ∧ D.rt d (O'.set k c), bk := fun G' O' => O'[k]? = some z ∧ D.bk G' (O'.set k c), ct := fun G' O' => O'[k]? = some z ∧ D.ct G' (O'.set k c) } G (O.set k z)
def xLockE (t : TX) : TX := fun G O Q E => ∃ k, optK O[k]? fun c => lockT c fun z => t G (O.set k z) (fun d O' => O'[k]? = some z ∧ Q d (O'.set k c)) (fun _ _ => False)
section
variable {K : PySem.W.Frag} {W : WX} {al : AL} {H : Hp} {O : Om}
/-- what locks: the address, the thing, and the way back -/
theorem lock_open {k : Nat} {c : Cell} {t : Cell → Prop} (rel : Rel K al H O) (ec : O[k]? = some c) (q : lockT c t) : ∃ a u, H a = some u ∧ Mut (some u) ∧ ∀ od, ∃ z, t z ∧ Stp al H al (upd H a (.frz od u)) ∧ Rel K al (upd H a (.frz od u)) (O.set k z) ∧
    ∀ al' H' O', Stp al (upd H a (.frz od u)) al' H' → Rel K al' H' O' → O'[k]? = some z → H' a = some (.frz od u) ∧ Stp al' H' al' (upd H' a u) ∧ Stp al H al' (upd H' a u) ∧ Rel K al' (upd H' a u) (O'.set k c) := by
  obtain ⟨oa, ea, ok⟩ := rel.ok k c ec
  cases c with
  | dK kvs =>
    match oa, ok with
    | some (a, none), ⟨vs, hH, hr⟩ =>
      refine ⟨a, .dK vs, hH, trivial, fun od => ⟨.fzK od vs kvs, q od vs, ?_⟩⟩
      have s : Stp al H al (upd H a (.frz od (.dK vs))) := stp_set rel.nd ea
      refine ⟨s, rel.set (c := .fzK od vs kvs) ea ⟨upd_same, hr.mono0 s.toStp0⟩, fun al' H' O' s' rel' e' => ?_⟩
      obtain ⟨oa', ea', ok'⟩ := rel'.ok k _ e'
      match oa', ok' with
      | some (a', none), ⟨h1, h2⟩ =>
        have e3 : a' = a := by
          rcases s'.old k _ ea with z | z <;> rw [ea'] at z <;> cases z
          rfl
        subst e3
        have s2 : Stp al' H' al' (upd H' a' (.dK vs)) := stp_set rel'.nd ea'
        exact ⟨h1, s2, (s.trans s').trans s2, rel'.set (c := .dK kvs) ea' ⟨vs, upd_same, h2.mono0 s2.toStp0⟩⟩
  | dT kvs =>
    match oa, ok with
    | some (a, none), ⟨vs, hH, hr⟩ =>
      refine ⟨a, .dT vs, hH, trivial, fun od => ⟨.fzT od vs kvs, q od vs, ?_⟩⟩
      have s : Stp al H al (upd H a (.frz od (.dT vs))) := stp_set rel.nd ea
      refine ⟨s, rel.set (c := .fzT od vs kvs) ea ⟨upd_same, hr.mono0 s.toStp0⟩, fun al' H' O' s' rel' e' => ?_⟩
      obtain ⟨oa', ea', ok'⟩ := rel'.ok k _ e'
      match oa', ok' with
      | some (a', none), ⟨h1, h2⟩ =>
        have e3 : a' = a := by
          rcases s'.old k _ ea with z | z <;> rw [ea'] at z <;> cases z
          rfl
        subst e3
        have s2 : Stp al' H' al' (upd H' a' (.dT vs)) := stp_set rel'.nd ea'
        exact ⟨h1, s2, (s.trans s').trans s2, rel'.set (c := .dT kvs) ea' ⟨vs, upd_same, h2.mono0 s2.toStp0⟩⟩
  | _ => exact (show False from q).elim
theorem rd_lock {ts : TS} {t : TSX} (h : RdS K W ts t) : RdS K W (tLock ts) (xLock t) := by
  intro al H σ G O D R rel env q ed
  obtain ⟨k, q⟩ := q
  obtain ⟨c, ec, q⟩ := q.ex
  obtain ⟨a, u, hH, mu, go⟩ := lock_open rel ec q
  refine ⟨a, u, hH, mu, fun od => ?_⟩
  obtain ⟨z, q, s, rel1, back⟩ := go od
  refine h al _ σ G _ _ _ rel1 (env.mono s) q ⟨?_, ?_, ?_, ?_, fun _ _ _ _ _ _ _ _ _ _ _ _ z => z.elim⟩
  · intro al' H' O' σ' G' s' rel' env' ⟨e', q'⟩
    obtain ⟨h1, s2, s3, rel2⟩ := back al' H' O' s' rel' e'
    exact ⟨h1, ed.nx _ _ _ _ _ s3 rel2 (env'.mono s2) q'⟩
  · intro al' H' O' v d s' rel' r' ⟨e', q'⟩
    obtain ⟨h1, s2, s3, rel2⟩ := back al' H' O' s' rel' e'
    exact ⟨h1, ed.rt _ _ _ _ _ s3 rel2 (r'.mono s2) q'⟩
  · intro al' H' O' σ' G' s' rel' env' ⟨e', q'⟩
    obtain ⟨h1, s2, s3, rel2⟩ := back al' H' O' s' rel' e'
    exact ⟨h1, ed.bk _ _ _ _ _ s3 rel2 (env'.mono s2) q'⟩
  · intro al' H' O' σ' G' s' rel' env' ⟨e', q'⟩
    obtain ⟨h1, s2, s3, rel2⟩ := back al' H' O' s' rel' e'
    exact ⟨h1, ed.ct _ _ _ _ _ s3 rel2 (env'.mono s2) q'⟩
theorem rd_lockE {te : TE} {t : TX} (h : RdE K W te t) : RdE K W (tLockE te) (xLockE t) := by
  intro al H σ G O Q E R rel env q hq hE
  obtain ⟨k, q⟩ := q
  obtain ⟨c, ec, q⟩ := q.ex
  obtain ⟨a, u, hH, mu, go⟩ := lock_open rel ec q
  refine ⟨a, u, hH, mu, fun od => ?_⟩
  obtain ⟨z, q, s, rel1, back⟩ := go od
  refine h al _ σ G _ _ _ _ rel1 (env.mono s) q (fun al' H' O' v d s' rel' r' ⟨e', q'⟩ => ?_) fun _ _ _ _ _ _ _ _ _ z => z.elim
  obtain ⟨h1, s2, s3, rel2⟩ := back al' H' O' s' rel' e'
  exact ⟨h1, hq _ _ _ _ _ s3 rel2 (r'.mono s2) q'⟩
end
section
variable {X : Cx} {W : WX}
theorem psx_lock {st : Stmt} {t : TSX} (h : PSX X W st t) : PSX X W st (xLock t) := let ⟨_, p, q⟩ := h; ⟨_, ps_lock p, rd_lock q⟩
theorem px_lock {e : Expr} {t : TX} (h : PX X W e t) : PX X W e (xLockE t) := let ⟨_, p, q⟩ := h; ⟨_, pe_lock p, rd_lockE q⟩
end

/-! ### a locked dict is walked -/
def keyDD : Key → D
  | .inl i => .int i
  | .inr s => .str s
def kOk : Key → Prop
  | .inl _ => True
  | .inr s => SOk s
def fzC (c : Cell) (Q : List (Key × D) → Prop) : Prop := match c with
  | .fzK _ _ kvs => Q kvs
  | _ => False
def fzCT (c : Cell) (Q : List (List Key × D) → Prop) : Prop := match c with
  | .fzT _ _ kvs => Q kvs
  | _ => False
def xKeys (a : TX) : TIX := fun G O Q E => a G O (fun d O1 => ownK d fun k => optK O1[k]? fun c => fzC c fun kvs => (∀ p ∈ kvs, kOk p.1) ∧ kvs.length ≤ 1000000 ∧ Q (kvs.map fun p => keyDD p.1) (fun O' => O'[k]? = some c) O1) E
def xVals (a : TX) : TIX := fun G O Q E => a G O (fun d O1 => ownK d fun k => optK O1[k]? fun c => fzC c fun kvs => kvs.length ≤ 1000000 ∧ Q (kvs.map (·.2)) (fun O' => O'[k]? = some c) O1) E
def xItems (a : TX) : TIX := fun G O Q E => a G O (fun d O1 => ownK d fun k => optK O1[k]? fun c => fzC c fun kvs => (∀ p ∈ kvs, kOk p.1) ∧ kvs.length ≤ 1000000 ∧ Q (kvs.map fun p => .tup [keyDD p.1, p.2]) (fun O' => O'[k]? = some c) O1) E
section
variable {K : PySem.W.Frag} {W : WX} {al : AL} {H : Hp} {O : Om}
theorem key_val {k : Key} (h : kOk k) : Rp K al H (kV k) (keyDD k) := by
  cases k with
  | inl i => exact .int i
  | inr s => exact .str s h
theorem fzC.ex {o : Option Cell} {Q : Cell → List (Key × D) → Prop} (h : optK o fun c => fzC c (Q c)) : ∃ oo vs kvs, o = some (.fzK oo vs kvs) ∧ Q (.fzK oo vs kvs) kvs := by
  obtain ⟨c, e, h⟩ := h.ex
  cases c with
  | fzK a b c => exact ⟨_, _, _, e, h⟩
  | _ => exact (show False from h).elim
theorem rpk_at {κ : Type} {vs : List (κ × V)} {ds : List (κ × D)} (r : RpK K al H vs ds) {i : Nat} {k : κ} {d : D} (h : ds[i]? = some (k, d)) : ∃ v, vs[i]? = some (k, v) ∧ Rp K al H v d := by
  have h1 : (ds.map (·.2))[i]? = some d := by rw [List.getElem?_map, h]; rfl
  obtain ⟨v, hv, rv⟩ := r.2.get h1
  have h2 : (vs.map (·.1))[i]? = some k := by rw [r.1, List.getElem?_map, h]; rfl
  rw [List.getElem?_map] at hv h2
  cases e : vs[i]? with
  | none => rw [e] at hv; cases hv
  | some p =>
    rw [e] at hv h2
    cases hv; cases h2
    exact ⟨_, rfl, rv⟩
/-- the locked dict, later -/
theorem fz_later {k : Nat} {a : Addr} {oo : Obj} {vs : List (Key × V)} {kvs : List (Key × D)} (ea : al.l[k]? = some (some (a, none))) {al' : AL} {H' : Hp} {O' : Om} (s : Stp0 al H al' H') (rel : Rel K al' H' O') (e : O'[k]? = some (.fzK oo vs kvs)) : H' a = some (.frz oo (.dK vs)) ∧ RpK K al' H' vs kvs := by
  obtain ⟨o', e', ok⟩ := rel.ok k _ e
  match o', ok with
  | some (a', none), ⟨h1, h2⟩ =>
    have e3 : a' = a := by
      rcases s.old k _ ea with z | z <;> rw [e'] at z <;> cases z
      rfl
    subst e3
    exact ⟨h1, h2⟩
theorem rd_keys {te : TE} {t : TX} (h : RdE K W te t) : RdI K W (iKeys te) (xKeys t) := by
  intro al H σ G O Q E R rel env q hq hE
  refine h al H σ G O _ E _ rel env q (fun al1 H1 O1 v d s1 rel1 r1 q1 => ?_) hE
  obtain ⟨k, rfl, q1⟩ := ownK.ex q1
  obtain ⟨oo, vs, kvs, e, hk, hl, q1⟩ := fzC.ex q1
  obtain ⟨a, rfl, ea, hH, hr⟩ := r1.ownZ rel1 e
  have hlen : vs.length = kvs.length := hr.len
  refine ⟨a, oo, rfl, .inl ⟨vs, hH, hq _ _ _ _ _ _ s1 rel1 (fun al2 H2 O2 s2 rel2 g2 => ?_) (by rw [List.length_map, sizeLine_eq]; omega) q1⟩⟩
  obtain ⟨k1, k2⟩ := fz_later ea s2 rel2 g2
  refine ⟨fun i hi => ⟨k1, by rw [List.length_map] at hi; omega⟩, fun i d hd => ⟨⟨k1, ?_⟩, ?_⟩⟩
  · have := (List.getElem?_eq_some_iff.mp hd).1; rw [List.length_map] at this; omega
  · rintro x H' ⟨rfl, key, v, ev, rfl⟩
    refine ⟨Stp.refl _ _, fun _ _ h => h, ?_⟩
    rw [List.getElem?_map] at hd
    cases ek : kvs[i]? with
    | none => rw [ek] at hd; cases hd
    | some p =>
      rw [ek] at hd; cases hd
      obtain ⟨v', e1, _⟩ := rpk_at k2 (k := p.1) (d := p.2) ek
      rw [ev] at e1; cases e1
      exact key_val (hk p (List.mem_of_getElem? ek))
theorem rd_vals {te : TE} {t : TX} (h : RdE K W te t) : RdI K W (iVals te) (xVals t) := by
  intro al H σ G O Q E R rel env q hq hE
  refine h al H σ G O _ E _ rel env q (fun al1 H1 O1 v d s1 rel1 r1 q1 => ?_) hE
  obtain ⟨k, rfl, q1⟩ := ownK.ex q1
  obtain ⟨oo, vs, kvs, e, hl, q1⟩ := fzC.ex q1
  obtain ⟨a, rfl, ea, hH, hr⟩ := r1.ownZ rel1 e
  have hlen : vs.length = kvs.length := hr.len
  refine ⟨a, oo, vs, rfl, hH, hq _ _ _ _ _ _ s1 rel1 (fun al2 H2 O2 s2 rel2 g2 => ?_) (by rw [List.length_map, sizeLine_eq]; omega) q1⟩
  obtain ⟨k1, k2⟩ := fz_later ea s2 rel2 g2
  refine ⟨fun i hi => ⟨k1, by rw [List.length_map] at hi; omega⟩, fun i d hd => ⟨⟨k1, ?_⟩, ?_⟩⟩
  · have := (List.getElem?_eq_some_iff.mp hd).1; rw [List.length_map] at this; omega
  · rintro x H' ⟨rfl, key, ev⟩
    refine ⟨Stp.refl _ _, fun _ _ h => h, ?_⟩
    rw [List.getElem?_map] at hd
    cases ek : kvs[i]? with
    | none => rw [ek] at hd; cases hd
    | some p =>
      rw [ek] at hd; cases hd
      obtain ⟨v', e1, r⟩ := rpk_at k2 (k := p.1) (d := p.2) ek
      rw [ev] at e1; cases e1
      exact r
theorem rd_items {te : TE} {t : TX} (h : RdE K W te t) : RdI K W (iItems te) (xItems t) := by
  intro al H σ G O Q E R rel env q hq hE
  refine h al H σ G O _ E _ rel env q (fun al1 H1 O1 v d s1 rel1 r1 q1 => ?_) hE
  obtain ⟨k, rfl, q1⟩ := ownK.ex q1
  obtain ⟨oo, vs, kvs, e, hk, hl, q1⟩ := fzC.ex q1
  obtain ⟨a, rfl, ea, hH, hr⟩ := r1.ownZ rel1 e
  have hlen : vs.length = kvs.length := hr.len
  refine ⟨a, oo, vs, rfl, hH, hq _ _ _ _ _ _ s1 rel1 (fun al2 H2 O2 s2 rel2 g2 => ?_) (by rw [List.length_map, sizeLine_eq]; omega) q1⟩
  obtain ⟨k1, k2⟩ := fz_later ea s2 rel2 g2
  refine ⟨fun i hi => ⟨k1, by rw [List.length_map] at hi; omega⟩, fun i d hd => ⟨⟨k1, ?_⟩, ?_⟩⟩
  · have := (List.getElem?_eq_some_iff.mp hd).1; rw [List.length_map] at this; omega
  · rintro x H' ⟨T, key, v, ev, rfl, hT, rfl⟩
    refine ⟨stp_new rel2.live hT, fun b u hb => upd_keep hT b u hb, ?_⟩
    rw [List.getElem?_map] at hd
    cases ek : kvs[i]? with
    | none => rw [ek] at hd; cases hd
    | some p =>
      rw [ek] at hd; cases hd
      obtain ⟨v', e1, r⟩ := rpk_at k2 (k := p.1) (d := p.2) ek
      rw [ev] at e1; cases e1
      exact new_tup rel2 hT (.cons (key_val (hk p (List.mem_of_getElem? ek))) (.cons r .nil)) (by show 2 ≤ sizeLine; decide)
end
section
variable {X : Cx} {W : WX} {tg e : Expr} {t : TX} {apos cpos tpos : Pos} {elts : List Expr} {kk : Nat}
theorem pix_keys (h : PX X W e t) : PIX X W tg e (xKeys t) := let ⟨_, p, q⟩ := h; ⟨_, pi_keys p, rd_keys q⟩
theorem pix_vals (h : PX X W e t) (hbase : attributeBase e "values" X.env (eval e X.env) = eval e X.env := by rfl) (hline : (apos.endLine == cpos.line) = true := by rfl) : PIX X W tg (.Call (.Attribute e "values" apos) [] [] cpos) (xVals t) := let ⟨_, p, q⟩ := h; ⟨_, pi_values p hbase hline, rd_vals q⟩
theorem pix_items (h : PX X W e t) (hbase : attributeBase e "items" X.env (eval e X.env) = eval e X.env := by rfl) (hline : (apos.endLine == cpos.line) = true := by rfl) : PIX X W (.Tuple elts kk tpos) (.Call (.Attribute e "items" apos) [] [] cpos) (xItems t) := let ⟨_, p, q⟩ := h; ⟨_, pi_items p hbase hline, rd_items q⟩
end

/-! ### a list display by a comprehension, owned -/
def lstV (d : D) (Q : List D → Prop) : Prop := match d with
  | .lst ds => Q ds
  | _ => False
def xLcO (i : TIX) (g : TGX) (tt : TTX) (te : TX) (vs : List Nat) : TX := fun G O Q E => i G O (fun ds grd O1 => wipeK G vs fun G' => lcGo g tt te grd G' (fun d O' => lstV d fun es => Q (.own O'.length) (O' ++ [.lst es])) ds [] O1) E
section
variable {K : PySem.W.Frag} {W : WX} {al : AL} {H : Hp} {O : Om}
theorem Rel.showO {hid : List Addr} {p : Addr} {c : Cell} (rel : Rel K al H O) (hh : al.hid = p :: hid) (hc : Stp0 al H (AL.add ⟨hid, al.l⟩ (some (p, none))) H → CellOk K (AL.add ⟨hid, al.l⟩ (some (p, none))) H c (some (p, none))) :
    Rel K (AL.add ⟨hid, al.l⟩ (some (p, none))) H (O ++ [c]) ∧ Stp0 al H (AL.add ⟨hid, al.l⟩ (some (p, none))) H ∧ True := by
  have e : fp al = p :: fp ⟨hid, al.l⟩ := by unfold fp; rw [hh]; rfl
  have e2 : fp (AL.add ⟨hid, al.l⟩ (some (p, none))) = fp ⟨hid, al.l⟩ ++ [p] := fp_add
  have sub : ∀ a, a ∈ fp (AL.add ⟨hid, al.l⟩ (some (p, none))) → a ∈ fp al := fun a ha => by
    rw [e2] at ha
    rw [e]
    rcases List.mem_append.mp ha with z | z
    · exact List.mem_cons_of_mem _ z
    · rw [List.mem_singleton.mp z]; exact List.mem_cons_self
  have nd := rel.nd
  rw [e] at nd
  have s : Stp0 al H (AL.add ⟨hid, al.l⟩ (some (p, none))) H := ⟨fun k o h => .inl (by rw [add_get (al := ⟨hid, al.l⟩) (List.getElem?_eq_some_iff.mp h).1]; exact h), fun a ha => .inl (sub a ha), fun _ _ _ h => h, fun _ h => h⟩
  refine ⟨⟨by show (al.l ++ [_]).length = _; rw [List.length_append, List.length_append, rel.len]; rfl, ?_, fun a ha => rel.live a (sub a ha), fun a ha => rel.nt a (sub a ha), fun k c' hk => ?_⟩, s, trivial⟩
  · rw [e2]
    exact List.nodup_append.mpr ⟨(List.nodup_cons.mp nd).2, by simp, fun a ha b hb => by rw [List.mem_singleton.mp hb]; intro z; subst z; exact (List.nodup_cons.mp nd).1 ha⟩
  · by_cases hlt : k < O.length
    · rw [List.getElem?_append_left hlt] at hk
      obtain ⟨o', e1, q⟩ := rel.ok k c' hk
      exact ⟨o', by rw [add_get (al := ⟨hid, al.l⟩) (by rw [show (⟨hid, al.l⟩ : AL).l.length = O.length from rel.len]; exact hlt)]; exact e1, q.mono0 s fun a _ u h => h⟩
    · have hk' : k = O.length := by
        have := (List.getElem?_eq_some_iff.mp hk).1
        rw [List.length_append] at this
        simp at this
        omega
      subst hk'
      rw [get_new] at hk
      cases hk
      refine ⟨some (p, none), ?_, hc s⟩
      rw [← show (⟨hid, al.l⟩ : AL).l.length = O.length from rel.len]
      exact add_new (al := ⟨hid, al.l⟩)
theorem rd_lcO {is : List Nat} {wi : TI} {tg : TG} {tc : TT} {te : TE} {i : TIX} {g : TGX} {tt : TTX} {t : TX} {vs : List Nat} (hv : ∀ j ∈ is, j ∈ vs) (hi : RdI K W wi i) (hg : RdG K WN is tg g) (hc : RdT K WN tc tt) (he : RdE K WN te t) : RdE K W (tLc wi tg tc te vs) (xLcO i g tt t vs) := by
  intro al H σ G O Q E R rel env q hq hE
  refine hi al H σ G O _ _ _ rel env q (fun al1 H1 O1 J ds grd s1 rel1 wk hlen q1 => ?_) hE
  rw [wipeK_eq] at q1
  obtain ⟨q1⟩ := q1
  intro Dl hD
  have env1 := env_wipe (env.mono s1) vs
  have s0 : Stp0 al1 H1 (al1.hide Dl) (upd H1 Dl (.lst [])) := stp_hide hD
  refine ⟨fun i m H' => ∃ al' O' acc accD, H' Dl = some (.lst acc) ∧ Rel K al' H' O' ∧ al'.hid = Dl :: al1.hid ∧ RpA K al' H' acc accD ∧ acc.length ≤ i ∧ i + m = ds.length ∧
      Stp0 (al1.hide Dl) (upd H1 Dl (.lst [])) al' H' ∧ (∀ a, a ∈ al1.hid → H' a = H1 a) ∧ lcGo0 g tt t grd (wipeG G vs) (fun d O' => lstV d fun es => Q (.own O'.length) (O' ++ [.lst es])) (ds.drop i) accD O',
    ⟨ds.length, al1.hide Dl, O1, [], [], upd_same, rel1.hide hD, rfl, .nil, Nat.le_refl _, by omega, .refl _ _, fun a ha => upd_ne fun e => rel1.live a (List.mem_append_left _ ha) (by rw [e]; exact hD), q1⟩, ?_⟩
  rintro i m H' ⟨al', O', acc, accD, hA, rel', hh, rA, hl, hm, S0, hs, h⟩
  by_cases hlt : i < ds.length
  · right
    rw [List.drop_eq_getElem_cons hlt] at h
    obtain ⟨hgr, h⟩ := h
    obtain ⟨_, w2⟩ := wk al' H' O' (s0.trans S0) rel' hgr
    obtain ⟨hgo, hy⟩ := w2 i ds[i] (List.getElem?_eq_getElem hlt)
    refine ⟨hgo, fun H2 => ∃ al2 O2 acc2 accD2, H2 Dl = some (.lst acc2) ∧ Rel K al2 H2 O2 ∧ al2.hid = Dl :: al1.hid ∧ RpA K al2 H2 acc2 accD2 ∧ acc2.length ≤ i + 1 ∧
      Stp0 (al1.hide Dl) (upd H1 Dl (.lst [])) al2 H2 ∧ (∀ a, a ∈ al1.hid → H2 a = H1 a) ∧ lcGo0 g tt t grd (wipeG G vs) (fun d O' => lstV d fun es => Q (.own O'.length) (O' ++ [.lst es])) (ds.drop (i + 1)) accD2 O2, ?_, fun x H2 hyl => ?_⟩
    · rintro H2 ⟨al2, O2, acc2, accD2, a1, a2, a3, a4, a5, a6, a7, a8⟩
      exact ⟨m - 1, by omega, al2, O2, acc2, accD2, a1, a2, a3, a4, a5, by omega, a6, a7, a8⟩
    · obtain ⟨sy, ky, ry⟩ := hy x H2 hyl
      have rel2 := rel'.keep sy ky
      have S2 := S0.trans sy.toStp0
      have hid2 : ∀ {al3 : AL} {H3 : Hp}, Stp al' H2 al3 H3 → al3.hid = Dl :: al1.hid ∧ H3 Dl = some (.lst acc) ∧ ∀ a, a ∈ al1.hid → H3 a = H1 a := fun {al3 H3} s3 => by
        refine ⟨s3.hid.trans hh, ?_, fun a ha => ?_⟩
        · rw [s3.same Dl (by rw [hh]; exact List.mem_cons_self)]; exact ky _ _ hA
        · rw [s3.same a (by rw [hh]; exact List.mem_cons_of_mem _ ha), sy.same a (by rw [hh]; exact List.mem_cons_of_mem _ ha)]; exact hs a ha
      refine hg al' H2 (wipe σ vs) (wipeG G vs) O' x _ _ _ _ rel2 (env1.mono0 (s0.trans S2)) ry h (fun al3 H3 O3 σ3 G3 s3 rel3 env3 hw q3 => ?_) (fun _ _ _ _ _ _ _ _ _ z => z.elim)
      refine ⟨by rw [hw vs hv, wipe_wipe], ?_⟩
      refine hc al3 H3 σ3 G3 O3 _ _ _ rel3 env3 q3 (fun al4 H4 O4 b s4 rel4 q4 => ?_) (fun _ _ _ _ _ _ _ _ _ z => z.elim)
      have s34 := s3.trans s4
      cases b with
      | false =>
        obtain ⟨e1, e2, e3⟩ := hid2 s34
        exact ⟨al4, O4, acc, accD, e2, rel4, e1, rA.mono0 (sy.toStp0.trans s34.toStp0), by omega, S2.trans s34.toStp0, e3, q4⟩
      | true =>
        refine he al4 H4 σ3 G3 O4 _ _ _ rel4 (env3.mono s4) q4 (fun al5 H5 O5 y d s5 rel5 r5 q5 => ?_) (fun _ _ _ _ _ _ _ _ _ z => z.elim)
        have s35 := s34.trans s5
        obtain ⟨e1, e2, e3⟩ := hid2 s35
        have hin : Dl ∈ al5.hid := by rw [e1]; exact List.mem_cons_self
        have sW : Stp0 al5 H5 al5 (upd H5 Dl (.lst (acc ++ [y]))) := stp_hidW hin
        refine ⟨acc, e2, by omega, al5, O5, acc ++ [y], accD ++ [d], upd_same, rel5.hidW hin, e1, ((rA.mono0 ((sy.toStp0.trans s35.toStp0).trans sW))).append (.cons (r5.mono0 sW) .nil), by rw [List.length_append]; simp; omega, (S2.trans s35.toStp0).trans sW, fun a ha => ?_, q5⟩
        rw [upd_ne (fun z => ?_)]
        · exact e3 a ha
        · subst z
          exact rel1.live _ (List.mem_append_left _ ha) hD
  · left
    rw [List.drop_eq_nil_of_le (Nat.le_of_not_lt hlt)] at h
    obtain ⟨hgr, h⟩ := h
    obtain ⟨w1, _⟩ := wk al' H' O' (s0.trans S0) rel' hgr
    refine ⟨w1 i (Nat.le_of_not_lt hlt), ?_⟩
    obtain ⟨relE, sE, nD⟩ := rel'.show_ hh
    have sF : Stp al1 H1 ⟨al1.hid, al'.l⟩ H' := by
      have z := (s0.trans S0).trans sE
      exact ⟨z, rfl, hs⟩
    obtain ⟨relO, sO, s2⟩ := rel'.showO hh (c := .lst accD) (fun S => ⟨acc, hA, by omega, rA.mono0 S⟩)
    have sG : Stp al1 H1 (AL.add ⟨al1.hid, al'.l⟩ (some (Dl, none))) H' := by
      refine Stp.mk' (fun k o hk => ?_) (fun a ha => ?_) sF.keep sF.there rfl sF.same
      · rcases sF.old k o hk with z | z
        · exact .inl (by rw [add_get (al := ⟨al1.hid, al'.l⟩) (List.getElem?_eq_some_iff.mp z).1]; exact z)
        · exact .inr (by rw [add_get (al := ⟨al1.hid, al'.l⟩) (List.getElem?_eq_some_iff.mp z).1]; exact z)
      · rw [fp_add] at ha
        rcases List.mem_append.mp ha with z | z
        · exact sF.new a z
        · rw [List.mem_singleton.mp z]; exact .inr hD
    refine hq _ _ _ _ _ (s1.trans sG) relO (.own (o := some (Dl, none)) ?_ (fun p e => by cases e; rfl)) h
    have := rel'.len
    rw [← this]
    exact add_new
end
section
variable {X : Cx} {W : WX}
theorem px_lcO {is : List Nat} {elt tg iter : Expr} {ifs : List Expr} {scope : Scope} {own : List (Str × Nat)} {pos : Pos} {i : TIX} {g : TGX} {tt : TTX} {t : TX} (hc : X.calm = true) (hN : X.N.Nodup) (hi : PIX X W tg iter i) {N : List Str} {sc : Scope} (ok : blkC N sc scope own = true)
    (hg : ∀ (s : Shared) (H : Hp) (C : Addr) (cl : List (Str × Addr)) (fp : List Addr), PGX (X.blk s H scope (compEnvC scope cl C X.env) fp) WN tg is g) (ht : ∀ (s : Shared) (H : Hp) (C : Addr) (cl : List (Str × Addr)) (fp : List Addr), PTsX (X.blk s H scope (compEnvC scope cl C X.env) fp) WN ifs tt)
    (he : ∀ (s : Shared) (H : Hp) (C : Addr) (cl : List (Str × Addr)) (fp : List Addr), PX (X.blk s H scope (compEnvC scope cl C X.env) fp) WN elt t) (hNN : X.N = N := by rfl) (hsc : X.env.scope = sc := by rfl) (hv : (is.all fun j => decide (j ∈ own.map (·.2))) = true := by rfl) (hs : ∀ x, foldedSetIterable iter X.env x = pure x := by intro _; rfl) :
    PX X W (.ListComp elt [⟨tg, iter, ifs, 0⟩] scope pos) (xLcO i g tt t (own.map (·.2))) :=
  let ⟨_, p1, q1⟩ := hi
  ⟨_, pe_lc hc hN p1 (by rw [hNN, hsc]; exact blkOk_by ok) (fun s H C cl fp => (hg s H C cl fp).canon) (fun s H C cl fp => (ht s H C cl fp).canon) (fun s H C cl fp => (he s H C cl fp).canon) hs,
    rd_lcO (fun j hj => of_decide_eq_true (List.all_eq_true.mp hv j hj)) q1 rd_tgOf rd_ttOf rd_teOf⟩
theorem psx_setLcO {is : List Nat} {k : Nat} {y : Str} {py : Pos} {elt tg iter : Expr} {ifs : List Expr} {scope : Scope} {own : List (Str × Nat)} {pos spos : Pos} {i : TIX} {g : TGX} {tt : TTX} {t : TX} (hc : X.calm = true) (hN : X.N.Nodup) (hy : X.N[k]? = some y) (hyl : X.env.scope.names.lookup y = some .local)
    (hsw : swapsWith (.ListComp elt [⟨tg, iter, ifs, 0⟩] scope pos) (some (.Name y py)) spos.line X.env = pure true) (hi : PIX X W tg iter i) {N : List Str} {sc : Scope} (ok : blkC N sc scope own = true)
    (hg : ∀ (s : Shared) (H : Hp) (C : Addr) (cl : List (Str × Addr)) (fp : List Addr), PGX (X.blk s H scope (compEnvC scope cl C X.env) fp) WN tg is g) (ht : ∀ (s : Shared) (H : Hp) (C : Addr) (cl : List (Str × Addr)) (fp : List Addr), PTsX (X.blk s H scope (compEnvC scope cl C X.env) fp) WN ifs tt)
    (he : ∀ (s : Shared) (H : Hp) (C : Addr) (cl : List (Str × Addr)) (fp : List Addr), PX (X.blk s H scope (compEnvC scope cl C X.env) fp) WN elt t) (hNN : X.N = N := by rfl) (hsc : X.env.scope = sc := by rfl) (hv : (is.all fun j => decide (j ∈ own.map (·.2))) = true := by rfl) (hs : ∀ x, foldedSetIterable iter X.env x = pure x := by intro _; rfl) :
    PSX X W (.Assign [.Name y py] (.ListComp elt [⟨tg, iter, ifs, 0⟩] scope pos) spos) (xAsg (xLcO i g tt t (own.map (·.2))) (xName k)) :=
  let ⟨_, p1, q1⟩ := hi
  ⟨_, ps_setLc hc hN hy hyl hsw p1 (by rw [hNN, hsc]; exact blkOk_by ok) (fun s H C cl fp => (hg s H C cl fp).canon) (fun s H C cl fp => (ht s H C cl fp).canon) (fun s H C cl fp => (he s H C cl fp).canon) hs,
    rd_asg (rd_lcO (fun j hj => of_decide_eq_true (List.all_eq_true.mp hv j hj)) q1 rd_tgOf rd_ttOf rd_teOf) rd_name⟩
end

/-! ### cells that nobody names are dropped -/
def cutG (n : Nat) (G : Gam) : Gam := G.map fun o => o.bind fun d => if d.cl n = true then some d else none
/-- P here, or of the first cells alone -/
def Dr (n : Nat) (P : Gam → Om → Prop) : Gam → Om → Prop := fun G O' => P G O' ∨ ∃ O1 Z, O' = O1 ++ Z ∧ n ≤ O1.length ∧ OmCl O1 ∧ P (cutG O1.length G) O1
def xGc (t : TSX) : TSX := fun D G O => t { D with nx := Dr O.length D.nx, bk := Dr O.length D.bk, ct := Dr O.length D.ct } G O
section
variable {K : PySem.W.Frag} {W : WX} {al : AL} {H : Hp} {O : Om}
theorem EnvR.cut {σ : L2.St} {G : Gam} (env : EnvR K al H σ G) (n : Nat) : EnvR K (al.cut n) H σ (cutG n G) := by
  refine ⟨by rw [env.len]; simp [cutG], fun i d h => ?_⟩
  unfold cutG at h
  rw [List.getElem?_map] at h
  cases e : G[i]? with
  | none => rw [e] at h; cases h
  | some o =>
    rw [e] at h
    cases o with
    | none => cases h
    | some x =>
      have h2 : (if D.cl n x = true then some x else none) = some d := Option.some.inj h
      by_cases hc : D.cl n x = true
      · rw [if_pos hc] at h2
        cases h2
        obtain ⟨v, e1, r⟩ := env.get i _ e
        exact ⟨v, e1, r.trunc n hc⟩
      · rw [if_neg hc] at h2
        cases h2
theorem Stp.truncLe {al0 : AL} {H0 : Hp} (s : Stp al0 H0 al H) {n : Nat} (hn : al0.l.length ≤ n) : Stp al0 H0 (al.cut n) H := by
  refine Stp.mk' (fun k o hk => ?_) (fun a ha => s.new a (fp_take n ha)) s.keep s.there s.hid s.same
  have hk' : k < n := Nat.lt_of_lt_of_le (List.getElem?_eq_some_iff.mp hk).1 hn
  rw [cut_get hk']
  exact s.old k o hk
theorem rd_gc {ts : TS} {t : TSX} (h : RdS K W ts t) : RdS K W ts (xGc t) := by
  intro al H σ G O D R rel env q ed
  refine h al H σ G O _ R rel env q ⟨?_, ed.rt, ?_, ?_, ed.ex⟩
  · rintro al' H' O' σ' G' s' rel' env' (q | ⟨O1, Z, rfl, hn, hcl, q⟩)
    · exact ed.nx _ _ _ _ _ s' rel' env' q
    · exact ed.nx _ _ _ _ _ (s'.truncLe (by rw [rel.len]; exact hn)) (rel'.trunc hcl) (env'.cut _) q
  · rintro al' H' O' σ' G' s' rel' env' (q | ⟨O1, Z, rfl, hn, hcl, q⟩)
    · exact ed.bk _ _ _ _ _ s' rel' env' q
    · exact ed.bk _ _ _ _ _ (s'.truncLe (by rw [rel.len]; exact hn)) (rel'.trunc hcl) (env'.cut _) q
  · rintro al' H' O' σ' G' s' rel' env' (q | ⟨O1, Z, rfl, hn, hcl, q⟩)
    · exact ed.ct _ _ _ _ _ s' rel' env' q
    · exact ed.ct _ _ _ _ _ (s'.truncLe (by rw [rel.len]; exact hn)) (rel'.trunc hcl) (env'.cut _) q
end
theorem psx_gc {X : Cx} {W : WX} {b : List Stmt} {t : TSX} (h : PSsX X W b t) : PSsX X W b (xGc t) := let ⟨_, p, q⟩ := h; ⟨_, p, rd_gc q⟩
theorem dr_all {n : Nat} {P : Gam → Om → Prop} {G : Gam} {O : Om} (h : P G O) : Dr n P G O := .inl h
theorem dr_cut {n : Nat} {P : Gam → Om → Prop} {G : Gam} {O : Om} (O1 Z : Om) (e : O = O1 ++ Z) (hn : n ≤ O1.length) (hc : OmCl O1) (h : P (cutG O1.length G) O1) : Dr n P G O := .inr ⟨O1, Z, e, hn, hc, h⟩
end Px

/-! ### sorted(pairs of a text and an int) -/
namespace SrtP
open PySem PySem.Spec PyProof.Rows
open SrtO hiding Str
def IsPairS (h : Heap) (v : Value) (x : Str) (y : Int) : Prop := ∃ a o t u n, v = .ref a ∧ h.get? a = some o ∧ o.cls = .type "tuple" ∧ o.data = .seq #[.str x t, .int y u] n
theorem IsPairS.keeps {h h' : Heap} {v : Value} {x : Str} {y : Int} (p : IsPairS h v x y) (k : ∀ b o, h.get? b = some o → o.cls = .type "tuple" → h'.get? b = some o) : IsPairS h' v x y := by
  obtain ⟨a, o, t, u, n, e, ho, hc, hd⟩ := p
  exact ⟨a, o, t, u, n, e, k _ _ ho hc, hc, hd⟩
def lexS (p q : Str × Int) : Bool := if p.1 = q.1 then decide (p.2 < q.2) else decide (p.1.cps.toList < q.1.cps.toList)
theorem str_of_cps {x y : Str} (h : x.cps.toList = y.cps.toList) : x = y := by
  cases x; cases y; simp only [Str.mk.injEq]; exact Array.ext' h
theorem lexS_iff {p q : Str × Int} : lexS p q = true ↔ p.1.cps.toList < q.1.cps.toList ∨ (p.1.cps.toList = q.1.cps.toList ∧ p.2 < q.2) := by
  unfold lexS
  by_cases e : p.1 = q.1
  · rw [if_pos e, decide_eq_true_eq, e]
    exact ⟨fun h => .inr ⟨rfl, h⟩, fun h => h.elim (fun z => absurd z (List.lt_irrefl _)) (·.2)⟩
  · rw [if_neg e, decide_eq_true_eq]
    exact ⟨.inl, fun h => h.elim id fun z => absurd (str_of_cps z.1) e⟩
theorem lexS_no {p q : Str × Int} : lexS p q = false ↔ ¬ (p.1.cps.toList < q.1.cps.toList ∨ (p.1.cps.toList = q.1.cps.toList ∧ p.2 < q.2)) := by
  rw [← lexS_iff]
  cases lexS p q <;> simp
theorem swoS {α : Type} (k : α → Str × Int) : Swo fun v u => lexS (k v) (k u) := by
  refine ⟨fun x y h => ?_, fun x y z h1 h2 => ?_⟩
  · have a := lexS_iff.mp h
    refine lexS_no.mpr ?_
    rintro (b | ⟨b, c⟩)
    · rcases a with a | ⟨a, _⟩
      · exact List.lt_asymm a b
      · rw [a] at b; exact List.lt_irrefl _ b
    · rcases a with a | ⟨_, a⟩
      · rw [b] at a; exact List.lt_irrefl _ a
      · omega
  · have a := lexS_no.mp h1
    have b := lexS_no.mp h2
    refine lexS_no.mpr ?_
    have a1 : ¬ (k y).1.cps.toList < (k x).1.cps.toList := fun q => a (.inl q)
    have b1 : ¬ (k z).1.cps.toList < (k y).1.cps.toList := fun q => b (.inl q)
    have xz : (k x).1.cps.toList ≤ (k z).1.cps.toList := List.le_trans (List.not_lt.mp a1) (List.not_lt.mp b1)
    rintro (c | ⟨c, d⟩)
    · exact absurd c (List.not_lt.mpr xz)
    · by_cases e : (k y).1.cps.toList = (k x).1.cps.toList
      · have a2 : ¬ (k y).2 < (k x).2 := fun q => a (.inr ⟨e, q⟩)
        have b2 : ¬ (k z).2 < (k y).2 := fun q => b (.inr ⟨c.trans e.symm, q⟩)
        omega
      · rw [c] at b1
        exact e (List.le_antisymm (List.not_lt.mp b1) (List.not_lt.mp a1))
section
variable {prog : Program} {w : World} {A : Around} {E : Value → Shared → Prop} {s : Shared}
theorem pairS_cmp {vs : List Value} {k : Value → Str × Int} (hp : ∀ v ∈ vs, IsPairS s.heap v (k v).1 (k v).2) : Cmp prog w A s (tuples' true) (fun p => p.1 ∈ vs) (lt2 fun v u => lexS (k v) (k u)) := by
  intro p q hm hm'
  have h1 := hp _ hm
  have h2 := hp _ hm'
  show wpAny (model prog w) A (keyLt' (tuples' true) p.1 q.1) (fun r s' => s' = s ∧ r = lexS (k p.1) (k q.1)) (fun _ _ => False) s
  unfold lexS
  generalize (k p.1).1 = x at h1 ⊢
  generalize (k p.1).2 = y at h1 ⊢
  generalize (k q.1).1 = x' at h2 ⊢
  generalize (k q.1).2 = y' at h2 ⊢
  obtain ⟨a, o, t, u, n, e, ho, hc, hd⟩ := h1
  obtain ⟨a', o', t', u', n', e', ho', hc', hd'⟩ := h2
  rw [e, e']
  refine PySem.W.kat_lt ho hd ho' hd' ?_
  show PySem.W.KatLex prog w A true (decide (2 < 2)) _ [(.str x t, .str x' t'), (.int y u, .int y' u')] 0 s
  refine PySem.W.kat_cons (SeqAt.EqAt.str_str x t x' t' prog w _ _ ?_)
  refine PySem.W.kat_go (fun e1 => ?_) (fun e1 => ?_)
  · have ex : x = x' := by simpa using e1
    refine PySem.W.kat_yes (PySem.W.kat_cons (SeqAt.EqAt.int_int y u y' u' prog w _ _ ?_))
    refine PySem.W.kat_go (fun e2 => ?_) (fun e2 => ?_)
    · have ey : y = y' := by simpa using e2
      have e3 : (if x = x' then decide (y < y') else decide (x.cps.toList < x'.cps.toList)) = false := by
        rw [if_pos ex, ey]
        exact decide_eq_false (Int.lt_irrefl _)
      exact PySem.W.kat_yes (PySem.W.kat_nil ⟨rfl, e3.symm⟩)
    · have e3 : (if x = x' then decide (y < y') else decide (x.cps.toList < x'.cps.toList)) = decide (y < y') := if_pos ex
      refine PySem.W.kat_no (PySem.W.kat_one _ _ (PyProof.Rows.lt_int ?_))
      exact (show s = s ∧ decide (y < y') = (if x = x' then decide (y < y') else decide (x.cps.toList < x'.cps.toList)) from ⟨rfl, e3.symm⟩)
  · have ex : ¬ x = x' := by simpa using e1
    have e3 : (if x = x' then decide (y < y') else decide (x.cps.toList < x'.cps.toList)) = decide (x.cps.toList < x'.cps.toList) := if_neg ex
    exact PySem.W.kat_no (oneLt_str ⟨rfl, e3.symm⟩)
theorem firsts_ofS {h : Heap} : ∀ {vs : List Value}, (∀ v ∈ vs, ∃ x y, IsPairS h v x y) → ∃ fs : List Value, PySem.W.KatTups h vs fs ∧ fs.length = vs.length ∧ ∀ f ∈ fs, ∃ x t, f = Value.str x t
  | [], _ => ⟨[], PySem.W.KatTups.nil, rfl, fun _ hm => by simp at hm⟩
  | v :: vs, hp => by
    obtain ⟨fs, h1, h2, h3⟩ := firsts_ofS (vs := vs) fun v' hm => hp v' (List.mem_cons_of_mem _ hm)
    obtain ⟨x, y, a, o, t, u, n, e, ho, hc, hd⟩ := hp v (List.mem_cons_self ..)
    subst e
    refine ⟨.str x t :: fs, PySem.W.KatTups.cons ho hc hd rfl h1, by rw [List.length_cons, List.length_cons, h2], fun f hm => ?_⟩
    rcases List.mem_cons.mp hm with rfl | hm
    · exact ⟨x, t, rfl⟩
    · exact h3 f hm
theorem pairsS_sortable {a : Addr} {vs : List Value} {k : Value → Str × Int} (h0 : 0 < vs.length) (hp : ∀ v ∈ vs, IsPairS s.heap v (k v).1 (k v).2) (ha : ∀ o, s.heap.get? a = some o → o.cls ≠ .type "tuple") : SortableO prog w A s a vs fun v u => lexS (k v) (k u) := by
  intro h' keep
  have hp' : ∀ v ∈ vs, IsPairS h' v (k v).1 (k v).2 := fun v hm => (hp v hm).keeps fun b o e c => keep b o (fun z => by subst z; exact ha o e c) e
  obtain ⟨fs, h1, h2, h3⟩ := firsts_ofS fun v hm => ⟨_, _, hp' v hm⟩
  refine ⟨tuples' true, fun Q E hq => ?_, pairS_cmp hp'⟩
  refine PySem.W.kat_kind (T := .type "str") h1 (by omega) (fun f hm => ?_) (by rfl) ?_
  · obtain ⟨x, t, rfl⟩ := h3 f hm
    exact PySem.W.Looks.now
  · have e : (Value.type "str" != Value.type "tuple") = true := by first | decide +kernel | rfl | decide
    rw [e]
    exact hq
theorem sorted_pairsS {l : Addr} {vs : List Value} {k : Value → Str × Int} {Q : Value → Shared → Prop} (hl : s.heap.IsList l vs.toArray) (hz : vs.length ≤ sizeLine) (hp : ∀ v ∈ vs, IsPairS s.heap v (k v).1 (k v).2)
    (h : ∀ (h' : Heap) (d : Addr) (out : List Value), Srtd (fun v u => lexS (k v) (k u)) out → Stb (fun v u => lexS (k v) (k u)) out vs → (∀ b o, s.heap.get? b = some o → h'.get? b = some o) → s.heap.objs.size ≤ d → (∃ n, h'.get? d = some (seqObj "list" out.toArray n)) → Q (.ref d) { s with heap := h' }) :
    wpAny (model prog w) A (call (.builtin "sorted") [.ref l]) Q E s := by
  refine sorted_ord (swoS k) hl hz (fun h2 h₁ a ha kk => ?_) fun out hs hb => ?_
  · refine pairsS_sortable (s := { s with heap := h₁ }) (by omega) (fun v hm => (hp v hm).keeps fun b o e _ => (kk b o e).2) fun o e => ?_
    have e' : some o = some (seqObj "list" vs.toArray 0) := e.symm.trans ha
    cases e'
    intro c
    exact absurd (Value.type.inj c) (by decide)
  · exact h _ _ out hs hb (fun b o e => sortedAll_old e) (Nat.le_succ _) (sortedAll_at s.heap vs out.toArray)
end
end SrtP
namespace Px
open PySem PySem.Spec PyProof.Rows L2
def rSortSP (K : PySem.W.Frag) : List V → Hp → VK → Prop := fun vs H Q => ∃ (a : Addr) (xs : List V), vs = [V.ref a] ∧ SqL K H a xs ∧ (∀ x ∈ xs, ∃ t z i, x = V.ref t ∧ SqT K H t [.str z, .int i]) ∧
  ∀ k : V → Str × Int, (∀ x ∈ xs, ∀ t z i, x = V.ref t → SqT K H t [.str z, .int i] → k x = (z, i)) → ∀ ys p, SrtO.Srtd (fun x y => SrtP.lexS (k x) (k y)) ys → SrtO.Stb (fun x y => SrtP.lexS (k x) (k y)) ys xs → H p = none → Q (.ref p) (upd H p (.lst ys))
section
variable {X : Cx}
theorem cr_sortSP : CallR X (.builtin "sorted") (rSortSP X.K) := by
  intro pins s σ H vs us Q I r h
  obtain ⟨a, xs, rfl, hs, hx, q⟩ := h
  obtain ⟨its, rv, hl, hz⟩ := I.list hs
  obtain ⟨u, rfl, ru⟩ := vals1 r
  obtain rfl : u = Value.ref a := ru
  obtain ⟨e1, e2⟩ := refs_back rv fun x m => by
    obtain ⟨t, _, _, e, _⟩ := hx x m
    exact ⟨t, e⟩
  have tup : ∀ t z i, SqT X.K H t [.str z, .int i] → SrtP.IsPairS s.heap (.ref t) z i := fun t z i h => by
    obtain ⟨its, r, ⟨o, ho, hc, n, hd⟩, _⟩ := I.tuple h
    obtain ⟨u1, u2, rfl, ri, rj⟩ := vals2 r
    obtain ⟨t1, rfl⟩ := ri
    obtain ⟨t2, rfl⟩ := rj
    exact ⟨t, o, t1, t2, n, rfl, ho, hc, hd⟩
  have uniq : ∀ t z i z' i', SqT X.K H t [.str z, .int i] → SqT X.K H t [.str z', .int i'] → (z, i) = (z', i') := fun t z i z' i' h h' => by
    obtain ⟨a1, o, t1, u1, n, e, ho, hc, hd⟩ := tup t z i h
    obtain ⟨a2, o', t2, u2, n', e', ho', hc', hd'⟩ := tup t z' i' h'
    cases e; cases e'
    rw [ho] at ho'
    cases ho'
    rw [hd] at hd'
    injection hd' with q1 q2
    have q3 := congrArg Array.toList q1
    simp at q3
    obtain ⟨⟨q4, _⟩, q5, _⟩ := q3
    rw [q4, q5]
  classical
  let k : V → Str × Int := fun x => if h : ∃ p : Str × Int, ∃ t, x = V.ref t ∧ SqT X.K H t [.str p.1, .int p.2] then h.choose else ("", 0)
  have hk : ∀ x ∈ xs, ∀ t z i, x = V.ref t → SqT X.K H t [.str z, .int i] → k x = (z, i) := fun x _ t z i e h => by
    have ex : ∃ p : Str × Int, ∃ t, x = V.ref t ∧ SqT X.K H t [.str p.1, .int p.2] := ⟨(z, i), t, e, h⟩
    have e1 : k x = ex.choose := dif_pos ex
    obtain ⟨t', e', h'⟩ := ex.choose_spec
    rw [e] at e'
    cases e'
    rw [e1]
    exact uniq _ _ _ _ _ h' h
  refine SrtP.sorted_pairsS (k := fun u => k (backV u)) hl.isList (by rw [← rv.length]; exact hz) (fun v hv => ?_) fun h' d out h1 h2 kp hd hn => ?_
  · obtain ⟨t, rfl⟩ := e2 v hv
    have hm : V.ref t ∈ xs := by rw [e1]; exact List.mem_map.mpr ⟨_, hv, rfl⟩
    obtain ⟨t', z, i, e, ht⟩ := hx _ hm
    cases e
    have := hk _ hm t z i rfl ht
    show SrtP.IsPairS s.heap (.ref t) (k (V.ref t)).1 (k (V.ref t)).2
    rw [this]
    exact tup t z i ht
  · have h3 : ∀ u ∈ out, ∃ a, u = Value.ref a := fun u hu => e2 u (h2.perm.mem_iff.mp hu)
    obtain ⟨n, hn⟩ := hn
    have hb : SrtO.Stb (fun x y => SrtP.lexS (k x) (k y)) (out.map backV) xs := by
      rw [e1]
      exact SrtO.Stb.map (lt := fun x y => SrtP.lexS (k x) (k y)) (SrtP.swoS k) backV h2
    refine ⟨.ref d, upd H d (.lst (out.map backV)), I.laid (t' := s.toks) kp hd ⟨?_, out, n, vals_back h3, hn⟩, rfl, q k hk _ d (SrtO.srtd_map h1) hb (I.hok.fresh hd)⟩
    rw [hb.len]
    exact hz
end
def D.sps : List D → Option (List (Str × Int))
  | [] => some []
  | .tup [.str z, .int i] :: r => match D.sps r with
    | some ps => some ((z, i) :: ps)
    | none => none
  | _ => none
def siD (p : Str × Int) : D := .tup [.str p.1, .int p.2]
theorem sps_map : ∀ ps : List (Str × Int), D.sps (ps.map siD) = some ps
  | [] => rfl
  | p :: ps => by
    show (match D.sps (ps.map siD) with | some ps => some ((p.1, p.2) :: ps) | none => none) = _
    rw [sps_map ps]
theorem sps_eq : ∀ {es : List D} {ps : List (Str × Int)}, D.sps es = some ps → es = ps.map siD
  | [], ps, h => by cases h; rfl
  | .tup [.str z, .int i] :: r, ps, h => by
    have h' : (match D.sps r with | some ps => some ((z, i) :: ps) | none => none) = some ps := h
    split at h'
    · rename_i qs e
      cases h'
      rw [sps_eq e]; rfl
    · cases h'
def leP (a b : Str × Int) : Bool := !SrtP.lexS b a
def sortP (ps : List (Str × Int)) : List (Str × Int) := ps.mergeSort leP
theorem sortP_perm (ps : List (Str × Int)) : (sortP ps).Perm ps := List.mergeSort_perm _ _
theorem leP_tr (a b c : Str × Int) (h : leP a b = true) (h' : leP b c = true) : leP a c = true := by
  have O := SrtP.swoS (fun p : Str × Int => p)
  unfold leP at *
  rw [Bool.not_eq_true'] at *
  exact O.tr _ _ _ h h'
theorem leP_tot (a b : Str × Int) : (leP a b || leP b a) = true := by
  have O := SrtP.swoS (fun p : Str × Int => p)
  unfold leP
  cases e : SrtP.lexS b a with
  | false => rfl
  | true => rw [O.asym _ _ e]; rfl
theorem leP_anti {a b : Str × Int} (h : leP a b = true) (h' : leP b a = true) : a = b := by
  unfold leP at *
  rw [Bool.not_eq_true'] at *
  have h := SrtP.lexS_no.mp h
  have h' := SrtP.lexS_no.mp h'
  have e : a.1.cps.toList = b.1.cps.toList := List.le_antisymm (List.not_lt.mp fun q => h (.inl q)) (List.not_lt.mp fun q => h' (.inl q))
  have h2 : ¬ _ := fun q => h (.inr ⟨e.symm, q⟩)
  have h3 : ¬ _ := fun q => h' (.inr ⟨e, q⟩)
  exact Prod.ext (SrtP.str_of_cps e) (by omega)
theorem sortP_pw (ps : List (Str × Int)) : (sortP ps).Pairwise (fun a b => leP a b = true) := List.pairwise_mergeSort leP_tr leP_tot ps
theorem sortP_uniq {xs ys : List (Str × Int)} (hp : ys.Perm xs) (hs : ys.Pairwise (fun a b => leP a b = true)) : ys = sortP xs :=
  List.Perm.eq_of_pairwise (fun a b _ _ => leP_anti) hs (sortP_pw xs) (hp.trans (sortP_perm xs).symm)
def dSrtP (ds : List D) (O : Om) (Q : QX) : Prop := match ds with
  | [d] => optK (lstD O d) fun es => optK (D.sps es) fun ps => Q (.lst ((sortP ps).map siD)) O
  | _ => False
theorem f_sortP {X : Cx} : FO X (.builtin "sorted") dSrtP := ⟨_, cr_sortSP, fun al H O xs ds Q R rel r h hq => by
  match ds, h with
  | [d], h =>
    obtain ⟨es, e1, h⟩ := optK.ex h
    obtain ⟨ps, e2, q⟩ := optK.ex h
    obtain ⟨v, rfl, rv⟩ := r.one
    obtain ⟨a, us, rfl, hs, hr, hz⟩ := lstD_rp rel rv e1
    obtain rfl := sps_eq e2
    have each : ∀ {us : List V} {ps : List (Str × Int)}, RpA X.K al H us (ps.map siD) → ∀ i x, us[i]? = some x → ∃ (t : Addr) (p : Str × Int), ps[i]? = some p ∧ x = V.ref t ∧ SqT X.K H t [.str p.1, .int p.2] := fun {us ps} hr i x hx => by
      obtain ⟨d, hd, rx⟩ := hr.getV hx
      rw [List.getElem?_map] at hd
      cases e : ps[i]? with
      | none => rw [e] at hd; cases hd
      | some p =>
        rw [e] at hd; cases hd
        obtain ⟨t, ws, rfl, h1, h2, _⟩ := rx.tupI
        obtain ⟨w1, w2, rfl, r1, r2⟩ := h2.two
        cases r1; cases r2
        exact ⟨t, p, e, rfl, h1⟩
    refine ⟨a, us, rfl, hs, fun x hx => ?_, fun k hk ys p h1 h2 hp => ?_⟩
    · obtain ⟨i, hi⟩ := List.getElem?_of_mem hx
      obtain ⟨t, p, _, e, h⟩ := each hr i x hi
      exact ⟨t, p.1, p.2, e, h⟩
    · have hkps : us.map k = ps := by
        refine List.ext_getElem? fun i => ?_
        rw [List.getElem?_map]
        cases e : us[i]? with
        | none =>
          have l := hr.length
          rw [List.length_map] at l
          rw [List.getElem?_eq_none_iff] at e
          rw [List.getElem?_eq_none (by omega)]; rfl
        | some x =>
          obtain ⟨t, p, e1, e2, h⟩ := each hr i x e
          rw [e1]
          show some (k x) = some p
          rw [hk x (List.mem_of_getElem? e) t p.1 p.2 e2 h]
      have hperm : (ys.map k).Perm ps := by rw [← hkps]; exact h2.perm.map k
      have hys : ys.map k = sortP ps := sortP_uniq hperm (List.pairwise_map.mpr (h1.imp fun {a b} q => by unfold leP; rw [show SrtP.lexS (k b) (k a) = false from q]; rfl))
      have new : RpA X.K al H ys (ys.map fun y => siD (k y)) := by
        have gen : ∀ zs : List V, (∀ z ∈ zs, z ∈ us) → RpA X.K al H zs (zs.map fun y => siD (k y)) := by
          intro zs
          induction zs with
          | nil => intro _; exact .nil
          | cons z zs ih =>
            intro hz
            refine .cons ?_ (ih fun y hy => hz y (List.mem_cons_of_mem _ hy))
            have hm := hz z List.mem_cons_self
            obtain ⟨i, hi⟩ := List.getElem?_of_mem hm
            obtain ⟨d, hd, rx⟩ := hr.getV hi
            obtain ⟨t, p', e1, e2, h⟩ := each hr i z hi
            rw [List.getElem?_map, e1] at hd
            cases hd
            have : k z = p' := hk z hm t p'.1 p'.2 e2 h
            show Rp X.K al H z (siD (k z))
            rw [this]
            exact rx
        exact gen ys fun z hz => h2.perm.mem_iff.mp hz
      refine hq _ _ _ _ _ (stp_new rel.live hp) (rel.new hp) (new_lst rel hp ?_ (by rw [h2.perm.length_eq]; exact hz)) q
      have e3 : (sortP ps).map siD = ys.map fun y => siD (k y) := by rw [← hys, List.map_map]; rfl
      rw [e3]; exact new⟩
end Px

namespace Px
open PySem PySem.Spec PyProof.Rows L2
/-! ### what stands at an own place -/
section
variable {O : Om} {k : Nat}
theorem tyN_l {ds : List D} (h : O[k]? = some (.lst ds)) : tyN O (.own k) = some .tList := by show O[k]?.bind tyC = _; rw [h]; rfl
theorem tyN_d {ds : List (Key × D)} (h : O[k]? = some (.dK ds)) : tyN O (.own k) = some .tDict := by show O[k]?.bind tyC = _; rw [h]; rfl
theorem lstD_l {ds : List D} (h : O[k]? = some (.lst ds)) : lstD O (.own k) = some ds := by
  show (match O[k]? with | some (.lst ds) => some ds | _ => none) = some ds
  rw [h]
theorem seqD_l {ds : List D} (h : O[k]? = some (.lst ds)) : seqD O (.own k) = some ds := by
  show (match O[k]? with | some (.lst ds) => some ds | _ => none) = some ds
  rw [h]
theorem snap_l {ds : List D} (h : O[k]? = some (.lst ds)) : snap O (.own k) = .lst ds := by
  unfold snap; rw [lstD_l h]
theorem get_ne {j : Nat} {c c2 c' : Cell} (h : O[k]? = some c) (h2 : O[j]? = some c2) (hne : c2 ≠ c) : (O.set j c')[k]? = some c := by
  rw [List.getElem?_set_ne (fun e => hne (by rw [e] at h2; rw [h] at h2; exact (Option.some.inj h2).symm))]
  exact h
theorem get_neI {j : Nat} {c c' : Cell} (h : O[k]? = some c) (hne : j ≠ k) : (O.set j c')[k]? = some c := by
  rw [List.getElem?_set_ne hne]; exact h
theorem set_same {c : Cell} (h : O[k]? = some c) : O.set k c = O := by
  refine List.ext_getElem? fun i => ?_
  by_cases e : k = i
  · subst e; rw [List.getElem?_set_self (List.getElem?_eq_some_iff.mp h).1, h]
  · rw [List.getElem?_set_ne e]
theorem get_self {c c' : Cell} (h : O[k]? = some c) : (O.set k c')[k]? = some c' := List.getElem?_set_self (List.getElem?_eq_some_iff.mp h).1
theorem wkD_l {ds : List D} (h : O[k]? = some (.lst ds)) : wkD O (.own k) = some (ds, fun O' => O'[k]? = some (.lst ds)) := ownW_l h
theorem lkD_l {ds : List D} (h : O[k]? = some (.lst ds)) : lkD O (.own k) = some (ds, fun O' => O'[k]? = some (.lst ds)) := ownW_l h
end
theorem walk_sq {O : Om} {d : D} {ds : List D} (h : seqD O d = some ds) : ∃ g : Om → Prop, wkD O d = some (ds, g) ∧ ∀ O', seqD O' d = some ds → g O' := by
  cases d with
  | lst es => cases h; exact ⟨_, rfl, fun _ _ => trivial⟩
  | tup es => cases h; exact ⟨_, rfl, fun _ _ => trivial⟩
  | own j =>
    have hj : O[j]? = some (.lst ds) := lstD_own (show lstD O (.own j) = some ds from h)
    exact ⟨_, wkD_l hj, fun O' h' => lstD_own (show lstD O' (.own j) = some ds from h')⟩
  | _ => cases h
theorem walk_ls {O : Om} {d : D} {ds : List D} (h : lstD O d = some ds) : ∃ g : Om → Prop, lkD O d = some (ds, g) ∧ ∀ O', lstD O' d = some ds → g O' := by
  cases d with
  | lst es => cases h; exact ⟨_, rfl, fun _ _ => trivial⟩
  | own j => exact ⟨_, lkD_l (lstD_own h), fun O' h' => lstD_own h'⟩
  | _ => cases h
theorem seqD_set {O : Om} {d : D} {k : Nat} {c : Cell} (h : d ≠ .own k) : seqD (O.set k c) d = seqD O d := by
  cases d with
  | own j =>
    show (match (O.set k c)[j]? with | some (.lst ds) => some ds | _ => none) = (match O[j]? with | some (.lst ds) => some ds | _ => none)
    rw [List.getElem?_set_ne (fun e => h (by rw [e]))]
  | _ => rfl
theorem ok_non {n : Nat} {O : Om} : D.ok n (snap O .non) = true := by cases n <;> rfl
theorem ok_bl {n : Nat} {O : Om} {b : Bool} : D.ok n (snap O (.bl b)) = true := by cases n <;> rfl
theorem seqD_app {O Z : Om} {d : D} {ds : List D} (h : seqD O d = some ds) : seqD (O ++ Z) d = some ds := by
  cases d with
  | own j => exact seqD_l (get_app (lstD_own (show lstD O (.own j) = some ds from h)))
  | _ => exact h
theorem erase_perm {α : Type} : ∀ {l : List α} {i : Nat} {y : α}, l[i]? = some y → ([y] ++ l.eraseIdx i).Perm l
  | x :: l, 0, y, h => by
    have e : x = y := by simpa using h
    subst e
    exact List.Perm.refl _
  | x :: l, i + 1, y, h => by
    have ih := erase_perm (l := l) (i := i) (y := y) (by simpa using h)
    show (y :: x :: l.eraseIdx i).Perm (x :: l)
    exact (List.Perm.swap x y _).trans (List.Perm.cons x ih)
end Px

namespace Px
open PySem PySem.Spec PyProof.Rows L2
/-! ### raise C(e): own classes with an __init__ that keeps one field -/
structure BaseX (K : PySem.W.Frag) (C0 : Addr) : Prop where
  sg : PySem.W.specialIn K (.ref C0) "__getattribute__" = some (some (.builtin "type.__getattribute__"))
  ht : PySem.W.typeIn K (.ref C0) = some (.type "type")
  rd : PySem.W.readsIn K C0 (.type "type") = true
  vv : PySem.W.findCls K (.ref C0) (.type "type") "__init__" = some (.val (.builtin "ValueError.__init__"))
section
variable {X : Cx} {e : Expr} {es : List Expr} {ta : TA} {p1 p2 pos : Pos} {x : Str} {C0 : Addr}
theorem pe_dinit {pl : Sem Bool} (B : BaseX X.K C0) (hg : Gl X x) (hm : X.mg x = some (.ref C0)) (ha : PA X (e :: es) ta) (hd : (x == ("__debug__" : Str)) = false := by decide)
    (hc : eval (.Call (.Attribute (.Name x p1) "__init__" p2) (e :: es) [] pos) X.env = (do
      let ov ← eval (.Name x p1) X.env
      standAt p2.atName
      let (f, first) ← holding [ov] (getMethod ov "__init__" pl)
      callWith pos f first (backTo pos (starEach (e :: es) X.env)) (backToKw pos (keywordEach [] X.env))) := by rfl)
    (he : starEach (e :: es) X.env = (false, eval e X.env) :: starEach es X.env := by rfl) (hpl : (backTo pos (starEach es X.env)).any (·.1) = false := by rfl) :
    PE X (.Call (.Attribute (.Name x p1) "__init__" p2) (e :: es) [] pos) (tVeI X.K ta) := by
  refine ⟨fun pins s σ H Q I h => ?_⟩
  refine PySem.W.methodCall_KW (ld_glob I hg hm ?_ hd) hc
  obtain ⟨m, fr⟩ := I.fr
  refine PySem.W.method_of_cls fr I.ok.mod.kin B.sg (PySem.W.cls_val fr I.ok.mod.kin B.ht B.rd B.vv (by decide +kernel) ?_)
  show wpAny _ _ (callWith pos (Value.builtin "ValueError.__init__") [] (backTo pos (starEach (e :: es) X.env)) []) _ _ _
  refine PyProof.Rows.callWith_method1 (thn (ha.run pos pins _ σ H _ (I.tok _) h) fun us s1 ⟨vs, H1, I1, r1, a, C, ws, ev, hl, T, ea, q⟩ => ?_) he hpl
  subst ev
  cases r1 with
  | @cons _ u0 _ ur ra rw' =>
    obtain rfl : u0 = Value.ref a := ra
    have hlen : ur.length ≤ sizeLine := by
      rw [← Paired.length rw', sizeLine_eq]
      omega
    exact oinit_ok T I1 ea hlen fun s' J => ⟨.non, H1, J, rfl, q⟩
end
/-- what such an __init__ does -/
def spNC (K : PySem.W.Frag) (f : Str) : Sp := fun vs H Q _ => ∃ (a C : Addr) (v : V), vs = [.ref a, v] ∧ OexC K C ∧ H a = some (exo a C none) ∧ PySem.W.findIn K (.ref C) f = some none ∧
  ∀ dx, H dx = none → dx ≠ a → Q .non (upd (upd H dx (exd dx [(f, v)])) a (exo a C (some dx)))
/-- such a class -/
structure RzC (P : Program) (w : World) (K : PySem.W.Frag) (mg : Str → Option Value) (base : Heap) (x : Str) (i : Nat) : Prop where
  ex : ∃ fI fd par, mg x = some (.ref (clA K i)) ∧ OexC K (clA K i) ∧ PySem.W.findIn K (.ref (clA K i)) "__init__" = some (some (.ref fI)) ∧ PySem.W.typeIn K (.ref fI) = some (.type "function") ∧
    FnOk P w K mg base (L2.CX P w) 1 fI fd ["self", par] (spNC K (fldN i)) ∧ Binds K fd ["self", par] [] ∧ PySem.W.findIn K (.ref (clA K i)) (fldN i) = some none
def xRaiseV (i : Nat) (t : TAX) : TSX := fun D G O => t G O (fun ds O1 => oneK ds fun d => D.ex ⟨i, [d]⟩ G O1) (fun x O1 => D.ex x G O1)
theorem upd_del {H : Hp} {a dx : Addr} {x y z u : HO} (ha : H a = none) (hne : dx ≠ a) : upd (del (upd (upd (upd H a x) dx y) a z) a) dx u = upd H dx u := by
  funext b
  by_cases e : b = dx
  · subst e; rw [upd_same, upd_same]
  · rw [upd_ne e, upd_ne e]
    by_cases e2 : b = a
    · subst e2; rw [del_same, ha]
    · rw [del_ne e2, upd_ne e2, upd_ne e, upd_ne e2]
theorem rd_raiseV {K : PySem.W.Frag} {W : WX} {i : Nat} {ta : TA} {t : TAX} (T : OexC K (clA K i)) (hno : PySem.W.findIn K (.ref (clA K i)) (fldN i) = some none) (h : RdA K W 1 ta t) :
    RdS K W (fun _ σ H => tMkO (clA K i) (spNC K (fldN i)) [] ta σ H fun cls d H' => W cls d σ H') (xRaiseV i t) := by
  intro al H σ G O D R rel env q e
  refine h al H σ G O _ _ _ rel env q (fun al1 H1 O1 vs ds s1 rel1 r1 hl q1 => ?_) (fun al1 H1 O1 x cls dd s1 rel1 ex q1 => e.ex _ _ _ _ _ _ _ _ s1 rel1 (env.mono s1) ex q1)
  match ds, hl, q1, r1 with
  | [d], _, q1, r1 =>
    obtain ⟨v, rfl, rv⟩ := r1.one
    refine ⟨by show 1 ≤ 1000; decide, fun a ha => ⟨a, clA K i, v, rfl, T, upd_same, hno, fun dx hdx hne => ⟨rfl, dx, [(fldN i, v)], upd_same, ?_, ?_, ?_⟩⟩⟩
    · rw [upd_ne hne]; exact upd_same
    · rw [upd_ne hne] at hdx; exact hdx
    · rw [upd_ne hne] at hdx
      rw [upd_del ha hne]
      refine e.ex al1 _ O1 σ G ⟨i, [d]⟩ _ _ (s1.trans (stp_new rel1.live hdx)) (rel1.new hdx) (env.mono (s1.trans (stp_new rel1.live hdx))) ⟨rfl, .inr ⟨dx, [(fldN i, v)], rfl, rel1.fresh hdx, upd_same, rfl, .cons (rv.mono (stp_new rel1.live hdx)) .nil⟩⟩ q1
theorem psx_raiseV {X : Cx} {W : WX} {x : Str} {i k : Nat} {e : Expr} {t : TAX} {p pos pos2 : Pos} (C : RzC X.prog X.w X.K X.mg X.base x i) (hr : Room k X.A) (tk : Takes X W) (ha : PAX X W [e] t) (hk : decide (2 ≤ k) = true := by rfl) (hc : X.calm = true := by rfl) (hg : Gl X x := by rfl) (hdb : (x == ("__debug__" : Str)) = false := by decide)
    (he : starEach [e] X.env = (false, eval e X.env) :: starEach [] X.env := by rfl) (hpl : (backTo pos (starEach [] X.env)).any (·.1) = false := by rfl) :
    PSX X W (.Raise (some (.Call (.Name x p) [e] [] pos)) none pos2) (xRaiseV i t) :=
  let ⟨fI, fd, par, hm, T, iC, tI, F, hb, hno⟩ := C.ex
  let ⟨_, p1, q1⟩ := ha
  ⟨_, ps_raise hc tk (pmk_oex T iC tI F (hr.mono (of_decide_eq_true hk)) hb .nil (fun _ _ _ _ _ _ _ z => (no_cx z).elim) hg hm p1 hdb he hpl), rd_raiseV T hno q1⟩
end Px

namespace Px
open PySem PySem.Spec PyProof.Rows L2
/-! ### an own list times a number -/
theorem RpA.rep {K : PySem.W.Frag} {al : AL} {H : Hp} {vs : List V} {ds : List D} (r : RpA K al H vs ds) : ∀ n : Nat, RpA K al H (List.replicate n vs).flatten (List.replicate n ds).flatten
  | 0 => .nil
  | n + 1 => by
    rw [List.replicate_succ, List.replicate_succ, List.flatten_cons, List.flatten_cons]
    exact r.append (RpA.rep r n)
theorem len_rep {α : Type} (xs : List α) : ∀ n : Nat, (List.replicate n xs).flatten.length = n * xs.length
  | 0 => by simp
  | n + 1 => by rw [List.replicate_succ, List.flatten_cons, List.length_append, len_rep xs n, Nat.succ_mul]; omega
def dMulL (d e : D) (O : Om) (Q : QX) : Prop := match d with
  | .own k => optK O[k]? fun c => lstK c fun ds => match e with
    | .int n => (0 ≤ n ∧ n ≤ 1000) ∧ ds.length ≤ 1000 ∧ Q (.lst (List.replicate n.toNat ds).flatten) O
    | _ => False
  | d => dMul d e O Q
theorem o_mulL {X : Cx} : BO X .Mult dMulL := let ⟨_, h1, h2⟩ := o_mulA (X := X); ⟨_, OpR.or h1 op_rep, fun al H O x y d e Q R rel rx ry h hq => by
  cases d with
  | own k =>
    obtain ⟨ds, e1, h⟩ := lstK.ex h
    cases e with
    | int n =>
      obtain ⟨⟨h0, h1'⟩, h2', q⟩ := h
      obtain ⟨a, xs, rfl, e4, e5, e6, e7⟩ := rx.ownL rel e1
      cases ry
      have hl : xs.length * n.toNat ≤ sizeLine := by
        rw [e7.length, sizeLine_eq]
        have : ds.length * n.toNat ≤ 1000 * 1000 := Nat.mul_le_mul h2' (by omega)
        omega
      refine .inr ⟨a, n, xs, rfl, rfl, e5, by omega, by omega, hl, fun p hp => ?_⟩
      refine hq _ _ _ _ _ (stp_new rel.live hp) (rel.new hp) (new_lst rel hp (e7.rep n.toNat) ?_) q
      rw [len_rep, Nat.mul_comm]; exact hl
    | _ => exact (show False from h).elim
  | _ => exact .inl (h2 al H O x y _ e Q R rel rx ry h hq)⟩
end Px

namespace Px
open PySem PySem.Spec PyProof.Rows L2
/-! ### zip of two tuples -/
def tupK (d : D) (Q : List D → Prop) : Prop := match d with
  | .tup ds => Q ds
  | _ => False
theorem tupK.ex {d : D} {Q : List D → Prop} (h : tupK d Q) : ∃ ds, d = .tup ds ∧ Q ds := by
  cases d with
  | tup ds => exact ⟨ds, rfl, h⟩
  | _ => exact (show False from h).elim
def xZipT (a b : TX) : TIX := fun G O Q E => a G O (fun d O1 => b G O1 (fun e O2 => tupK d fun ds => tupK e fun es => Q (zipD ds es) (fun _ => True) O2) E) E
section
variable {K : PySem.W.Frag} {W : WX} {al : AL} {H : Hp} {O : Om}
theorem tup_later {v : V} {ds : List D} (r : Rp K al H v (.tup ds)) : ∃ a xs, v = .ref a ∧ xs.length ≤ sizeLine ∧ ∀ al' H', Stp0 al H al' H' → SqT K H' a xs ∧ RpA K al' H' xs ds := by
  cases r with
  | @tup a xs _ hs hl hr =>
    refine ⟨a, xs, rfl, hl, fun al' H' s => ⟨?_, hr.mono0 s⟩⟩
    exact .inl (.inl (s.rdX hs.1 hs.2).2)
theorem rd_zipT {ta tb : TE} {a b : TX} (ha : RdE K W ta a) (hb : RdE K W tb b) : RdI K W (RZ.iZipA K (tCons ta (tCons tb tNil))) (xZipT a b) := by
  intro al H σ G O Q E R rel env q hq he
  refine ha al H σ G O _ E _ rel env q (fun al1 H1 O1 v d s1 rel1 r1 q1 => ?_) he
  refine hb al1 H1 σ G O1 _ E _ rel1 (env.mono s1) q1 (fun al2 H2 O2 w e s2 rel2 r2 q2 => ?_) (fun _ _ _ _ _ _ s' => he _ _ _ _ _ _ (s1.trans s'))
  obtain ⟨ds, rfl, q3⟩ := tupK.ex q2
  obtain ⟨es, rfl, q4⟩ := tupK.ex q3
  obtain ⟨a1, xs, rfl, l1, f1⟩ := tup_later (r1.mono s2)
  obtain ⟨a2, ys, rfl, l2, f2⟩ := tup_later r2
  obtain ⟨b1, b2⟩ := f1 al2 H2 (.refl _ _)
  obtain ⟨c1, c2⟩ := f2 al2 H2 (.refl _ _)
  refine ⟨a1, a2, xs, ys, rfl, .inr ⟨b1, c1, hq _ _ _ _ _ _ (s1.trans s2) rel2 (fun al' H' O' s rel' g' => ?_) (by rw [zipD_len, ← b2.length]; omega) q4⟩⟩
  obtain ⟨d1, d2⟩ := f1 al' H' s
  obtain ⟨e1, e2⟩ := f2 al' H' s
  refine ⟨fun i hi => ⟨xs, ys, d1, e1, ?_⟩, fun i d hd => ?_⟩
  · rw [zipD_len] at hi
    rw [d2.length, e2.length]; omega
  · obtain ⟨x, y, h1, h2, rfl⟩ := zipD_get ds es i d hd
    obtain ⟨v1, g1, g2⟩ := d2.get h1
    obtain ⟨v2, g3, g4⟩ := e2.get h2
    refine ⟨⟨xs, ys, v1, v2, d1, e1, g1, g3⟩, fun z H3 hy => ?_⟩
    obtain ⟨T, z1, z2, rfl, hT, rfl, hy1, hy2⟩ := hy
    have k1 := hy1 xs d1
    have k2 := hy2 ys e1
    rw [g1] at k1; cases k1
    rw [g3] at k2; cases k2
    exact ⟨stp_new rel'.live hT, upd_keep hT, new_tup rel' hT (.cons g2 (.cons g4 .nil)) (by show 2 ≤ sizeLine; rw [sizeLine_eq]; decide)⟩
/-! ### list(range(..)) -/
def xLstRg (a : TX) : TX := fun G O Q E => a G O (fun d O1 => dInt d fun n => (-(2 ^ 62) ≤ n ∧ n ≤ 1000000) ∧ Q (.lst ((List.range n.toNat).map fun i => .int (i : Nat))) O1) E
theorem rd_lstRg {te : TE} {a : TX} (h : RdE K W te a) : RdE K W (tLstRg (tRg1 te)) (xLstRg a) := by
  intro al H σ G O Q E R rel env q hq he
  refine h al H σ G O _ E _ rel env q (fun al1 H1 O1 v d s1 rel1 r1 q1 => ?_) he
  cases d with
  | int n =>
    cases r1
    obtain ⟨⟨h0, h1⟩, q1⟩ := q1
    refine ⟨n, rfl, ⟨by omega, by omega, by omega, by omega, by omega⟩, fun p hp => ?_⟩
    have e : rgV 0 n = (List.range n.toNat).map fun i : Nat => V.int (i : Int) := by
      unfold rgV
      rw [Int.sub_zero]
      exact List.map_congr_left fun i _ => by rw [Int.zero_add]
    have rr : RpA K al1 H1 (rgV 0 n) ((List.range n.toNat).map fun i => D.int (i : Nat)) := by
      rw [e]
      generalize List.range n.toNat = l
      induction l with
      | nil => exact .nil
      | cons x l ih => exact .cons (.int _) ih
    exact hq _ _ _ _ _ (s1.trans (stp_new rel1.live hp)) (rel1.new hp) (new_lst rel1 hp rr (by rw [rgV_length, sizeLine_eq]; omega)) q1
  | _ => exact (show False from q1).elim
end
section
variable {X : Cx} {W : WX} {tg e a b : Expr} {p p2 pos tpos : Pos} {elts : List Expr} {kk : Nat}
theorem pix_zipT {t u : TX} (hg : Gl X "zip") (hm : X.mg "zip" = none) (h : PX X W a t) (h2 : PX X W b u) (hs : starEach [a, b] X.env = (false, eval a X.env) :: starEach [b] X.env := by rfl) (hs2 : starEach (b :: []) X.env = (false, eval b X.env) :: starEach [] X.env := by rfl) (hpl : (backTo pos (starEach [b] X.env)).any (·.1) = false := by rfl) :
    PIX X W (.Tuple elts kk tpos) (.Call (.Name "zip" p) [a, b] [] pos) (xZipT t u) := let ⟨_, q1, q⟩ := h; let ⟨_, q3, q2⟩ := h2; ⟨_, RZ.pi_zipA hg hm (pa_cons q1 (pa_cons q3 pa_nil hs2) hs) hs hpl, rd_zipT q q2⟩
theorem px_lstRg {t : TX} (hm : X.mg "list" = none) (hm2 : X.mg "range" = none) (h : PX X W e t) (hc : X.calm = true := by rfl) (hg : Gl X "list" := by rfl) (hg2 : Gl X "range" := by rfl) (na : starEach [e] X.env = (false, eval e X.env) :: starEach [] X.env := by rfl)
    (na2 : starEach [.Call (.Name "range" p2) [e] [] tpos] X.env = (false, eval (.Call (.Name "range" p2) [e] [] tpos) X.env) :: starEach [] X.env := by rfl) :
    PX X W (.Call (.Name "list" p) [.Call (.Name "range" p2) [e] [] tpos] [] pos) (xLstRg t) := let ⟨_, p1, q⟩ := h; ⟨_, pe_listRg hc hg hm (prg_1 hg2 hm2 p1 na) na2, rd_lstRg q⟩
end
end Px

namespace Px
open PySem PySem.Spec PyProof.Rows L2
/-! ### x in (a, b): of any depth -/
def rInTd (neg : Bool) (K : PySem.W.Frag) : R2 := fun x y H Q => ∃ p ps, Dp K H x p ∧ Dp K H y (.tuple ps) ∧ SeqAt.shaped p = true ∧ PyData.canLayAll0 ps = true ∧ Q (.bl (neg.xor (ps.any fun z => PyData.eqv z p))) H
def dInB (neg : Bool) (d e : D) (O : Om) (Q : QX) : Prop := match e with
  | .tup ds => D.ok 19 d = true ∧ D.oks 19 ds = true ∧ Q (.bl (neg.xor (ds.any fun z => D.eq z d))) O
  | e => dInA neg d e O Q
section
variable {X : Cx}
theorem op_inTd (hu : X.A.units + 65 < cLine) : OpR X (compareOp .In) (rInTd false X.K) := by
  intro pins s σ H x y v u Q I rx ry h
  obtain ⟨p, ps, hx, hy, sp, cl, q⟩ := h
  obtain ⟨as, k1⟩ := Dp.reads I p x v hx rx
  obtain ⟨bs, k2⟩ := Dp.reads I (.tuple ps) y u hy ry
  rw [Bool.false_xor] at q
  exact SeqAt.in_tuple_reads k2 k1 cl (SeqAt.canLay_of_shaped sp) (room_in_shaped sp hu) ⟨.bl _, H, I, rfl, q⟩
theorem op_notInTd (hu : X.A.units + 65 < cLine) : OpR X (compareOp .NotIn) (rInTd true X.K) := by
  intro pins s σ H x y v u Q I rx ry h
  obtain ⟨p, ps, hx, hy, sp, cl, q⟩ := h
  obtain ⟨as, k1⟩ := Dp.reads I p x v hx rx
  obtain ⟨bs, k2⟩ := Dp.reads I (.tuple ps) y u hy ry
  rw [Bool.true_xor] at q
  exact SeqAt.notIn_tuple_reads k2 k1 cl (SeqAt.canLay_of_shaped sp) (room_in_shaped sp hu) ⟨.bl _, H, I, rfl, q⟩
theorem rd_inB {K : PySem.W.Frag} {neg : Bool} {r : R2} (h0 : RdO2 K r (dInA neg)) : RdO2 K (fun x y H Q => r x y H Q ∨ rInTd neg K x y H Q) (dInB neg) := by
  intro al H O x y d e Q R rel rx ry h hq
  cases e with
  | tup ds =>
    obtain ⟨h2, h3, h4⟩ := h
    obtain ⟨p, e1, l1⟩ := D.ok_py 19 d (by omega) h2
    obtain ⟨ps, e2, l2⟩ := D.oks_py 19 ds (by omega) h3
    obtain ⟨z1, c1⟩ := Rp.dp d x p rx e1
    obtain ⟨z2, c2⟩ := Rp.dp (.tup ds) y (.tuple ps) ry (by show (D.pys ds).map _ = _; rw [e2]; rfl)
    refine .inr ⟨p, ps, z1, z2, ?_, by simpa [PyData.canLay0] using c2, ?_⟩
    · unfold SeqAt.shaped; rw [c1, decide_eq_true (by omega)]; rfl
    · rw [pys_any e1 e2]; exact hq _ _ _ _ _ (Stp.refl _ _) rel (.bl _) h4
  | _ => exact .inl (h0 al H O x y d _ Q R rel rx ry h hq)
theorem c_inB (hr : Un0 X.A) : CO X .In (dInB false) := let ⟨_, h1, h2⟩ := c_inA hr; ⟨_, OpR.or h1 (op_inTd (by have := hr.le; omega)), rd_inB h2⟩
theorem c_notInB (hr : Un0 X.A) : CO X .NotIn (dInB true) := let ⟨_, h1, h2⟩ := c_notInA hr; ⟨_, OpR.or h1 (op_notInTd (by have := hr.le; omega)), rd_inB h2⟩
end
end Px

namespace Px
open PySem PySem.Spec PyProof.Rows L2
open Sem (wp)
open AutoSeq1 (wpAny_loadPart')
/-! ### list(reversed(range(..))) -/
section
variable {prog : Program} {w : World} {A : Around} {E : Value → Shared → Prop} {s : Shared} {I : Addr}
theorem hint_ri {x left step : Int} {Q : Value → Shared → Prop} (hit : IsRangeIter s.heap I x left step) (h : ∀ u, Q (.int left u) { s with toks := s.toks + 1 }) :
    wpAny (model prog w) A (call (.builtin "range_iterator.__length_hint__") [.ref I]) Q E s := by
  have ht : s.TypeIs (.ref I) "range_iterator" := ⟨_, hit, rfl⟩
  refine wpAny_call_entry F.slot_range_iterator_length_hint ht F.entry_range_iterator_length_hint ?_ (F.args_range_iterator_length_hint_1 _)
  obtain ⟨hp, g, d, tk, os⟩ := s
  wp_walk using wpAny_loadPart' hit
  exact ⟨_, rfl, h _⟩
theorem ext_ri {R : Result → Shared → Prop} {x step : Int} {n : Nat} (hh : A.handled = none) (hit : IsRangeIter s.heap I x (n : Int) step) (hn : n ≤ 2 ^ 24) (S : Addr) (res : Value) (c0 : Nat) (hS : s.heap.get? S = some { cls := .type "list", data := .seq #[] c0 })
    (hR : ∀ h' tk ys c', (∀ b o, b ≠ S → b ≠ I → s.heap.get? b = some o → h'.get? b = some o) → h'.get? S = some { cls := .type "list", dict := none, data := .seq ys c', slots := #[] } →
      ItemsOf (fun i v => ∃ t, v = .int (x + i * step) t) ys n → R (.ok (.ret res)) { s with heap := h', toks := tk }) :
    wpAny (model prog w) A.in1 (Builtin.List.listExtendWith (.ref S) (.ref I) res)
      (fun fin s' => match fin with | .done f => R (.ok f) s' | .again c' => c'.quiet = true ∧ codeAny (model prog w) A c' R s') (fun e s' => R (.error e) s') s := by
  have ne : S ≠ I := fun e => by rw [e] at hS; rw [show s.heap.get? I = _ from hit] at hS; simp at hS
  have nf : S ∉ [I] := fun hm => ne (List.mem_singleton.mp hm)
  have W := (Walks.range (prog := prog) (w := w) (A := A.in1) hh I x step n).toS
  have st0 : ∀ {h : Heap}, IsRangeIter h I x (n : Int) step → IsRangeIter h I (x + ((0 : Nat) : Int) * step) ((n : Int) - ((0 : Nat) : Int)) step := fun h => by simpa using h
  have tI : s.TypeIs (.ref I) "range_iterator" := ⟨_, hit, rfl⟩
  unfold Builtin.List.listExtendWith
  refine wpAny_bind (wpAny_typeOf tI ?_)
  have b1 : Builtin.List.listSameRef (.ref S) (.ref I) = false := by simp [Builtin.List.listSameRef, ne]
  have b2 : (Value.type "range_iterator" == Value.type "list") = false := by decide
  have b3 : (Value.type "range_iterator" == Value.type "tuple") = false := by decide
  simp only [b1, b2, b3, Bool.or_false, Bool.false_eq_true, if_false]
  refine wpAny_bind (wpAny_pyIter_rangeiter hit ?_)
  refine wpAny_bind (wpAny_holding ?_)
  unfold Builtin.List.listLengthHint
  refine wpAny_bind (wpAny_specialOf tI F.nolen_ra ?_)
  show wpAny _ A.in1 (specialOf (Value.ref I) (Str.ofString "__length_hint__") >>= _) _ _ s
  refine wpAny_bind (wpAny_specialOf tI F.hint_ra ?_)
  (generalize hj : ("range_iterator.__length_hint__" : String) = j0; (fail_if_success (clear hj j0)); wp_delta; rw [show splitId j0 = some ("range_iterator", "__length_hint__") from by subst hj; decide +kernel]; subst hj)
  refine wpAny_bind (wpAny_isInstance (b := true) tI (by rw [isSubtype_type]; kernel_rfl) ?_)
  show wpAny _ A.in1 (call (.builtin "range_iterator.__length_hint__") [.ref I] >>= _) _ _ s
  refine wpAny_bind (hint_ri hit fun u => ?_)
  refine wpAny_bind (m := asInt? (.int (n : Int) u)) (wpAny_pure ?_)
  dsimp only
  have tl : Builtin.List.listTooLong ((n : Int).toNat) = false := by simp [Builtin.List.listTooLong, sizeLine]; omega
  rw [if_neg (by rw [tl]; decide)]
  refine wpAny_pure ?_
  rw [if_neg (by decide)]
  refine wpAny_pure ⟨plainId_quiet F.plain_extend_loop _, codeAny_extend_loopS W (by rw [sizeLine_eq]; omega) S nf res n 0 _ #[] c0 rfl (Nat.zero_le _) (st0 hit) hS (ItemsOf.nil _) fun s' ys c' hm hS' hy => ?_⟩
  rw [Moved.eq_with hm]
  refine hR s'.heap s'.toks ys c' (fun b o hb hb2 e => hm.heap b o (fun hmem => ?_) e) hS' hy
  rcases List.mem_cons.mp hmem with e' | hmem
  · exact hb e'
  · exact hb2 (List.mem_singleton.mp hmem)
theorem call_list_ri {Q : Value → Shared → Prop} {x step : Int} {n : Nat} (hh : A.handled = none) (hit : IsRangeIter s.heap I x (n : Int) step) (hn : n ≤ 2 ^ 24)
    (hQ : ∀ h' tk ys c', (∀ b o, b ≠ I → s.heap.get? b = some o → h'.get? b = some o) → h'.get? s.heap.objs.size = some { cls := .type "list", dict := none, data := .seq ys c', slots := #[] } →
      ItemsOf (fun i v => ∃ t, v = .int (x + i * step) t) ys n → Q (.ref s.heap.objs.size) { s with heap := h', toks := tk }) :
    wpAny (model prog w) A (call (.type "list") [.ref I]) Q E s := by
  refine callType_codes (Q₁ := fun obj s1 => obj = .ref s.heap.objs.size ∧ s1 = { s with heap := s.heap.push { cls := .type "list", data := .seq #[] } }) F.called_list (F.typeCall_list_1 _) F.entry_list_init (code_list_new _ ⟨rfl, rfl⟩) fun obj s1 h1 => ?_
  obtain ⟨rfl, rfl⟩ := h1
  have hS : (s.heap.push { cls := .type "list", data := .seq #[] }).get? s.heap.objs.size = some { cls := .type "list", data := .seq #[] } := Heap.get?_push_size _ rfl
  have hit1 : IsRangeIter (s.heap.push { cls := .type "list", data := .seq #[] }) I x (n : Int) step := Heap.get?_push_of_some _ hit
  refine ⟨⟨_, hS, rfl⟩, F.args_list_init_2 _ _, ?_⟩
  generalize hS0 : s.heap.objs.size = S at hS hQ
  have ne : S ≠ I := fun e => by rw [e] at hS; rw [show Heap.get? _ I = _ from hit1] at hS; simp at hS
  show wpAny _ _ (do let old ← Builtin.List.listItems (.ref S); Builtin.List.listUpdate (.ref S) (fun _ => #[]); letGo old.toList.reverse; Builtin.List.listExtendWith (.ref S) (.ref I) .none) _ _ _
  refine wpAny_bind ?_
  unfold Builtin.List.listItems
  refine wpAny_bind (wpAny_seqItems hS rfl (wpAny_pure ?_))
  show wpAny _ _ (updateSeq S (fun _ => #[]) >>= fun _ => letGo (#[] : Array Value).toList.reverse >>= fun _ => Builtin.List.listExtendWith (.ref S) (.ref I) .none) _ _ _
  refine wpAny_bind (wpAny_updateSeq hS rfl ?_)
  have hS2 := Heap.get?_update_self (Obj.mapSeq (fun _ => (#[] : Array Value))) hS rfl
  refine wpAny_bind (wpAny_letGo ?_)
  have hit2 : IsRangeIter ((s.heap.push { cls := .type "list", data := .seq #[] }).update S (Obj.mapSeq (fun _ => (#[] : Array Value)))) I x (n : Int) step := (Heap.get?_update_other _ _ ne).trans hit1
  refine ext_ri (A := A.in1) (prog := prog) (w := w) (s := { s with heap := (s.heap.push { cls := .type "list", data := .seq #[] }).update S (Obj.mapSeq (fun _ => (#[] : Array Value))) }) hh hit2 hn S .none _ hS2 fun h' tk ys c' hk hS' hy => ?_
  refine ⟨rfl, hQ h' tk ys c' (fun b o hb e => hk b o (fun z => ?_) hb ((Heap.get?_update_other _ _ (fun z => ?_)).trans (Heap.get?_push_of_some _ e))) hS' hy⟩
  · exact absurd (Heap.lt_size e) (by rw [hS0, z]; exact Nat.lt_irrefl _)
  · exact absurd (Heap.lt_size e) (by rw [hS0, ← z]; exact Nat.lt_irrefl _)
end
/-! the level of expressions -/
section
variable {X : Cx} {e : Expr}
def rvV (a b : Int) : List V := (List.range (b - a).toNat).map fun i => V.int (b - 1 - (i : Nat))
theorem rvV_length (a b : Int) : (rvV a b).length = (b - a).toNat := by unfold rvV; rw [List.length_map, List.length_range]
theorem vals_rv {a b : Int} {ys : Array Value} (h : ItemsOf (fun i v => ∃ t, v = .int (a + (((b - a).toNat : Nat) : Int) - 1 + i * (-1)) t) ys (b - a).toNat) : Vals (rvV a b) ys.toList := by
  have e : ys.toList.length = (b - a).toNat := by rw [Array.length_toList]; exact h.1
  have g : ∀ j u, ys.toList[j]? = some u → RelV ((fun i : Nat => V.int (b - 1 - (i : Nat))) j) u := fun j u hj => by
    obtain ⟨t, rfl⟩ := h.2 j u (by rw [← hj, Array.getElem?_toList])
    have hl : j < ys.toList.length := (List.getElem?_eq_some_iff.mp hj).1
    rw [e] at hl
    exact ⟨t, by congr 1; omega⟩
  have r := vals_of_get ys.toList _ g
  rw [e] at r
  exact r
def tLstRv (te : L2.St → Hp → (Int → Int → Hp → Prop) → Prop) : TE := fun σ H Q => te σ H fun a b H1 => RgOk a b ∧ ∀ q, H1 q = none → Q (.ref q) (upd H1 q (.lst (rvV a b)))
theorem pe_listRv {te : L2.St → Hp → (Int → Int → Hp → Prop) → Prop} {p p2 pos pos2 : Pos} (hc : X.calm = true) (hg : Gl X "list") (hm : X.mg "list" = none) (hg2 : Gl X "reversed") (hm2 : X.mg "reversed" = none) (he : PRg X e te)
    (na : starEach [e] X.env = (false, eval e X.env) :: starEach [] X.env := by rfl)
    (na2 : starEach [.Call (.Name "reversed" p2) [e] [] pos2] X.env = (false, eval (.Call (.Name "reversed" p2) [e] [] pos2) X.env) :: starEach [] X.env := by rfl) :
    PE X (.Call (.Name "list" p) [.Call (.Name "reversed" p2) [e] [] pos2] [] pos) (tLstRv te) := by
  refine ⟨fun pins s σ H Q I h => ?_⟩
  have inner : wpAny (model X.prog X.w) X.A (eval (.Call (.Name "reversed" p2) [e] [] pos2) X.env) (fun x s' => ∃ s1 a b H1, x = .ref s1.heap.objs.size ∧ s' = { s1 with heap := s1.heap.push (rngRevObj a b 1) } ∧ Inv X pins σ H1 s1 ∧ RgOk a b ∧ ∀ q, H1 q = none → Q (.ref q) (upd H1 q (.lst (rvV a b)))) X.xe s := by
    refine Call_ (ld_blt I hg2 hm2 PyProof.Rows.boot_reversed (PyProof.Rows.callWith_type1 (args_cons (thn (he pins s σ H _ I h) fun u s1 hx => args_nil ?_) na) na rfl))
    obtain ⟨r, a, b, t, w1, v, H1, eu, hr, I1, ok, q⟩ := hx
    subst eu
    exact call_reversed_range hr (smallRev_one ok.1 ok.2.1 ok.2.2.1 ok.2.2.2.1) ⟨s1, a, b, H1, rfl, rfl, I1, ok, q⟩
  refine Call_ (ld_blt I hg hm boot_list (PyProof.Rows.callWith_type1 (args_cons (thn inner fun x s' ⟨s1, a, b, H1, ex, es, I1, ok, q⟩ => args_nil ?_) na2) na2))
  subst ex
  subst es
  have hit : IsRangeIter (s1.heap.push (rngRevObj a b 1)) s1.heap.objs.size (a + (((b - a).toNat : Nat) : Int) - 1) (((b - a).toNat : Nat) : Int) (-1) := by
    have hn : Builtin.Range.rangeSize a b 1 = (((b - a).toNat : Nat) : Int) := rangeSize_nat a b
    have z : rngRevObj a b 1 = { cls := .type "range_iterator", data := .fields #[rawInt (a + (((b - a).toNat : Nat) : Int) - 1), rawInt (((b - a).toNat : Nat) : Int), rawInt (-1)] } := by
      unfold rngRevObj
      rw [hn, show a + ((((b - a).toNat : Nat) : Int) - 1) * 1 = a + (((b - a).toNat : Nat) : Int) - 1 from by omega]
    rw [z]
    exact Heap.get?_push_size _ rfl
  refine call_list_ri (I1.ok.hd hc) hit (by exact ok.2.2.2.2) fun h' tk ys c' hk hS hy => ?_
  have sz : (s1.heap.push (rngRevObj a b 1)).objs.size = s1.heap.objs.size + 1 := by simp [Heap.push]
  have hk1 : ∀ b' o, s1.heap.get? b' = some o → h'.get? b' = some o := fun b' o e => hk b' o (fun z => absurd (Heap.lt_size e) (by rw [z]; exact Nat.lt_irrefl _)) (Heap.get?_push_of_some _ e)
  have le : s1.heap.objs.size ≤ (s1.heap.push (rngRevObj a b 1)).objs.size := by rw [sz]; exact Nat.le_succ _
  refine ⟨.ref (s1.heap.push (rngRevObj a b 1)).objs.size, upd H1 (s1.heap.push (rngRevObj a b 1)).objs.size (.lst (rvV a b)), I1.laid hk1 le (show ObjOk X.prog X.w _ _ _ (.lst (rvV a b)) from ⟨?_, ys.toList, c', vals_rv hy, ?_⟩), rfl, q _ (I1.hok.fresh le)⟩
  · have := ok.2.2.2.2; rw [rvV_length, sizeLine_eq]; omega
  · rw [Array.toArray_toList]; exact hS
end
def xLstRv (a : TX) : TX := fun G O Q E => a G O (fun d O1 => dInt d fun n => (-(2 ^ 62) ≤ n ∧ n ≤ 1000000) ∧ Q (.lst ((List.range n.toNat).map fun i => .int (n - 1 - (i : Nat)))) O1) E
theorem rd_lstRv {K : PySem.W.Frag} {W : WX} {te : TE} {a : TX} (h : RdE K W te a) : RdE K W (tLstRv (tRg1 te)) (xLstRv a) := by
  intro al H σ G O Q E R rel env q hq he
  refine h al H σ G O _ E _ rel env q (fun al1 H1 O1 v d s1 rel1 r1 q1 => ?_) he
  cases d with
  | int n =>
    cases r1
    obtain ⟨⟨h0, h1⟩, q1⟩ := q1
    refine ⟨n, rfl, ⟨by omega, by omega, by omega, by omega, by omega⟩, fun p hp => ?_⟩
    have rr : RpA K al1 H1 (rvV 0 n) ((List.range n.toNat).map fun i => D.int (n - 1 - (i : Nat))) := by
      unfold rvV
      rw [Int.sub_zero]
      generalize List.range n.toNat = l
      induction l with
      | nil => exact .nil
      | cons x l ih => exact .cons (.int _) ih
    exact hq _ _ _ _ _ (s1.trans (stp_new rel1.live hp)) (rel1.new hp) (new_lst rel1 hp rr (by rw [rvV_length, sizeLine_eq]; omega)) q1
  | _ => exact (show False from q1).elim
theorem px_lstRv {X : Cx} {W : WX} {e : Expr} {p p2 p3 pos pos2 pos3 : Pos} {t : TX} (hm : X.mg "list" = none) (hm2 : X.mg "reversed" = none) (hm3 : X.mg "range" = none) (h : PX X W e t) (hc : X.calm = true := by rfl) (hg : Gl X "list" := by rfl) (hg2 : Gl X "reversed" := by rfl) (hg3 : Gl X "range" := by rfl)
    (na : starEach [e] X.env = (false, eval e X.env) :: starEach [] X.env := by rfl)
    (na2 : starEach [.Call (.Name "range" p3) [e] [] pos3] X.env = (false, eval (.Call (.Name "range" p3) [e] [] pos3) X.env) :: starEach [] X.env := by rfl)
    (na3 : starEach [.Call (.Name "reversed" p2) [.Call (.Name "range" p3) [e] [] pos3] [] pos2] X.env = (false, eval (.Call (.Name "reversed" p2) [.Call (.Name "range" p3) [e] [] pos3] [] pos2) X.env) :: starEach [] X.env := by rfl) :
    PX X W (.Call (.Name "list" p) [.Call (.Name "reversed" p2) [.Call (.Name "range" p3) [e] [] pos3] [] pos2] [] pos) (xLstRv t) := let ⟨_, p1, q⟩ := h; ⟨_, pe_listRv hc hg hm hg2 hm2 (prg_1 hg3 hm3 p1 na) na2 na3, rd_lstRv q⟩
end Px

namespace Px
open PySem PySem.Spec PyProof.Rows L2
/-! ### dict(d) of an own dict -/
def dDictD (ds : List D) (O : Om) (Q : QX) : Prop := match ds with
  | [.own k] => optK O[k]? fun c => dKK c fun kvs => Q (.own O.length) (O ++ [.dK kvs])
  | _ => False
theorem f_dictD {X : Cx} : FO X (.type "dict") dDictD := ⟨_, call_dictD, fun al H O xs ds Q R rel r h hq => by
  match ds, h with
  | [.own k], h =>
    obtain ⟨kvs, e1, h⟩ := dKK.ex h
    obtain ⟨v, rfl, rv⟩ := r.one
    obtain ⟨a, vs, rfl, _, g1, g2⟩ := rv.ownD rel e1
    refine ⟨a, vs, rfl, .inl g1, fun p hn => ?_⟩
    have s := stp_own (o := .dK vs) rel.live hn
    refine hq _ _ _ _ _ s (rel.own (c := .dK kvs) hn ⟨_, upd_same, g2.mono0 s.toStp0⟩) ?_ h
    rw [← rel.len]
    exact own_new⟩
/-! ### l.index(x), texts -/
def dIndexS (d : D) (ds : List D) (O : Om) (Q : QX) : Prop := match ds with
  | [.str x] => optK (lstD O d) fun es => optK (D.strs es) fun l => x ∈ l ∧ ∀ j : Nat, j < l.length → l[j]? = some x → Q (.int (j : Nat)) O
  | _ => False
theorem first_at {x : Str} : ∀ {l : List Str}, x ∈ l → ∃ j : Nat, j < l.length ∧ l[j]? = some x ∧ ∀ (m : Nat) (z : Str), m < j → l[m]? = some z → z ≠ x
  | [], h => nomatch h
  | y :: l, h => by
    by_cases e : y = x
    · exact ⟨0, by simp, by rw [e]; rfl, fun m z hm _ => absurd hm (Nat.not_lt_zero _)⟩
    · obtain ⟨j, h1, h2, h3⟩ := first_at ((List.mem_cons.mp h).resolve_left (fun z => e z.symm))
      refine ⟨j + 1, by simpa using h1, by simpa using h2, fun m z hm hz => ?_⟩
      cases m with
      | zero => cases hz; exact e
      | succ m => exact h3 m z (by omega) (by simpa using hz)
theorem m_indexS {X : Cx} : MO X "list.index" dIndexS := ⟨_, mt_index, fun al H O x d xs ds Q R rel rx rxs h hq => by
  match ds, h with
  | [.str y], h =>
    obtain ⟨es, e1, h⟩ := optK.ex h
    obtain ⟨l, e2, hm, h⟩ := optK.ex h
    obtain ⟨v, rfl, rv⟩ := rxs.one
    cases rv
    obtain ⟨a, ys, rfl, hs, hr, _⟩ := lstD_rp rel rx e1
    obtain ⟨rfl, _⟩ := RpA.strsI hr e2
    obtain ⟨j, j1, j2, j3⟩ := first_at hm
    refine ⟨a, _, _, j, .str y, rfl, rfl, hs, rfl, ?_, ?_, ?_, fun m z' hm' hz => ?_, hq _ _ _ _ _ (Stp.refl _ _) rel (.int _) (h j j1 j2)⟩
    · rw [List.all_map]; exact List.all_eq_true.mpr fun _ _ => rfl
    · rw [List.getElem?_map, j2]; rfl
    · show (y == y) = true; simp
    · rw [List.getElem?_map] at hz
      obtain ⟨z, hz1, rfl⟩ := Option.map_eq_some_iff.mp hz
      show (z == y) = false
      have := j3 m z hm' hz1
      simpa using this⟩
/-! ### sum(d.values()) -/
section
variable {X : Cx} {o : Expr} {p pos apos mpos : Pos} {td : TE}
def tSumVals (td : TE) : TE := fun σ H Q => td σ H fun x H1 => ∃ a kvs, ∃ is : List Int, x = V.ref a ∧ H1 a = some (.dK kvs) ∧ kvs.map (·.2) = is.map V.int ∧ Q (.int is.sum) H1
theorem preSum_getD (is : List Int) : preSum (fun i => is.getD i 0) is.length = is.sum := by
  have key : ∀ n, n ≤ is.length → preSum (fun i => is.getD i 0) n = (is.take n).sum := fun n => by
    induction n with
    | zero => intro _; rfl
    | succ n ih =>
      intro hn
      have hl : n < is.length := hn
      show preSum (fun i => is.getD i 0) n + is.getD n 0 = _
      rw [ih (Nat.le_of_lt hl), List.take_succ, List.getElem?_eq_getElem hl, List.sum_append, List.getD_eq_getElem?_getD, List.getElem?_eq_getElem hl]
      simp
  rw [key _ (Nat.le_refl _), List.take_length]
theorem pe_sumVals (hc : X.calm = true) (hg : Gl X "sum") (hm : X.mg "sum" = none) (hd : PE X o td) (hb : attributeBase o "values" X.env (eval o X.env) = eval o X.env := by rfl) (hline : (apos.endLine == mpos.line) = true := by rfl)
    (hse : starEach [Expr.Call (.Attribute o "values" apos) [] [] mpos] X.env = [(false, eval (Expr.Call (.Attribute o "values" apos) [] [] mpos) X.env)] := by rfl) :
    PE X (.Call (.Name "sum" p) [.Call (.Attribute o "values" apos) [] [] mpos] [] pos) (tSumVals td) := by
  refine ⟨fun pins s σ H Q I h => wpAny_Call_Name_kw (ld_blt I hg hm (u := .builtin "sum") (by first | rfl | decide +kernel) ?_ (by first | decide +kernel | decide) (by first | decide +kernel | decide))⟩
  rw [hse]
  refine PySem.callWith_builtin1 (wpAny_Call_method0_late hb hline (thn (hd.run pins s σ H _ I h) fun v s1 ⟨x, H1, I1, r1, a, kvs, is, ex, ha, hv, q⟩ => ?_))
  subst ex
  obtain rfl : v = Value.ref a := r1
  obtain ⟨_, hsys, vs, rel, dof⟩ := dk_of I1.hok ha
  obtain ⟨ep, dat⟩ := dof.dictAt
  obtain ⟨ob, es, ho, ex, hdat, hko, hpr, hnd⟩ := id dat
  refine ⟨"dict", "dict.values", F.plainAttrs_dict, F.slot_dict_values, F.type_dict_values, ⟨ob, ho, ex.1⟩, fun b e => by cases e; exact ⟨ob, ho, ex.2.1⟩, Calls.callWith_builtin rfl (PySem.evalArgs_none ?_)⟩
  refine call_meetsIn F.slot_dict_values ⟨ob, ho, ex.1⟩ F.entry_dict_values (F.args_dict_values_1 _) (meets_dict_values (mixKind X.prog X.w) a hsys) ⟨⟨vs, dof⟩, ?_⟩
  generalize hG : s1.heap.push { cls := .type "dict_values", data := .fields #[.ref a] } = G
  have k1 : ∀ b u, s1.heap.get? b = some u → G.get? b = some u := fun b u e => by rw [← hG]; exact Heap.get?_push_of_some _ e
  have dat1 : G.DictAt (mixKind X.prog X.w) a vs ep := dat.keep k1
  have hsz : G.objs.size = s1.heap.objs.size + 1 := by rw [← hG]; exact Heap.size_push _ _
  have hlv : vs.length = is.length := by
    have e1 := congrArg List.length hv
    rw [List.length_map, List.length_map] at e1
    exact (KV.length rel).symm.trans e1
  have hval : ∀ (i : Nat) (v : Value), (∃ k, vs[i]? = some (k, v)) → ∃ t, v = Value.int ((fun i => is.getD i 0) i) t := fun i v ⟨k, hk⟩ => by
    obtain ⟨x, h1, h2⟩ := KV.at' rel hk
    have e1 : (kvs.map (·.2))[i]? = some x := by rw [List.getElem?_map, h1]; rfl
    rw [hv, List.getElem?_map] at e1
    obtain ⟨j, hj, e2⟩ := Option.map_eq_some_iff.mp e1
    subst e2
    obtain ⟨t, e3⟩ := h2
    exact ⟨t, by rw [e3]; show _ = Value.int (is.getD i 0) t; rw [List.getD_eq_getElem?_getD, hj]; rfl⟩
  have hlt : a < s1.heap.objs.size := Heap.lt_size ho
  have hview : G.get? s1.heap.objs.size = some { cls := .type "dict_values", data := .fields #[.ref a] } := by rw [← hG]; exact Heap.get?_push_size _ rfl
  refine call_sum_walkAnyS (wpAny_pyIter_values (v := s1.heap.objs.size) (d := a) ⟨_, hview, rfl, rfl⟩ dat1 ?_)
  refine ⟨_, _, _, _, _, _, _, fun i => is.getD i 0, rfl, (Walks.dictValues (knd := mixKind X.prog X.w) (A := X.A.in1) (I.ok.hd hc) G.objs.size a (by rw [hsz]; exact Nat.ne_of_lt (Nat.lt_succ_of_lt hlt)) vs ep).toS,
    ⟨⟨_, Heap.get?_push_size _ rfl, rfl, rfl⟩, dat1.keep fun b u e => Heap.get?_push_of_some _ e⟩, fun b hb => ?_, hval, fun s' t' hm' => ?_⟩
  · show b < (G.push _).objs.size
    rw [Heap.size_push]
    rcases List.mem_cons.mp hb with e | hb
    · rw [e]; exact Nat.lt_succ_self _
    · rw [List.mem_singleton.mp hb, hsz]; exact Nat.lt_succ_of_lt (Nat.lt_succ_of_lt hlt)
  · have keep : ∀ b u, s1.heap.get? b = some u → s'.heap.get? b = some u := fun b u e => hm'.heap b u (fun hI => by
      have e1 := Heap.lt_size e
      rw [List.mem_singleton.mp hI, hsz] at e1
      exact absurd e1 (Nat.not_lt.mpr (Nat.le_succ _))) (Heap.get?_push_of_some _ (k1 b u e))
    rw [Moved.eq_with hm']
    refine ⟨.int is.sum, H1, I1.kept (t' := s'.toks) keep, ⟨t', ?_⟩, q⟩
    show Value.int (preSum (fun i => is.getD i 0) vs.length) t' = _
    rw [hlv, preSum_getD]
end
def xSumVals (a : TX) : TX := fun G O Q E => a G O (fun d O1 => ownK d fun k => optK O1[k]? fun c => dKK c fun kvs => optK (D.ints (kvs.map (·.2))) fun is => Q (.int is.sum) O1) E
theorem rd_sumVals {K : PySem.W.Frag} {W : WX} {te : TE} {a : TX} (h : RdE K W te a) : RdE K W (tSumVals te) (xSumVals a) := by
  intro al H σ G O Q E R rel env q hq he
  refine h al H σ G O _ E _ rel env q (fun al1 H1 O1 v d s1 rel1 r1 q1 => ?_) he
  obtain ⟨k, rfl, q1⟩ := ownK.ex q1
  obtain ⟨kvs, e1, q1⟩ := dKK.ex q1
  obtain ⟨is, e2, q1⟩ := optK.ex q1
  obtain ⟨p, vs, rfl, _, g1, g2⟩ := r1.ownD rel1 e1
  exact ⟨p, vs, is, rfl, g1, RpA.intsI g2.2 e2, hq _ _ _ _ _ s1 rel1 (.int _) q1⟩
theorem px_sumVals {X : Cx} {W : WX} {o : Expr} {p pos apos mpos : Pos} {t : TX} (hm : X.mg "sum" = none) (h : PX X W o t) (hc : X.calm = true := by rfl) (hg : Gl X "sum" := by rfl) (hb : attributeBase o "values" X.env (eval o X.env) = eval o X.env := by rfl) (hline : (apos.endLine == mpos.line) = true := by rfl)
    (hse : starEach [Expr.Call (.Attribute o "values" apos) [] [] mpos] X.env = [(false, eval (Expr.Call (.Attribute o "values" apos) [] [] mpos) X.env)] := by rfl) :
    PX X W (.Call (.Name "sum" p) [.Call (.Attribute o "values" apos) [] [] mpos] [] pos) (xSumVals t) := let ⟨_, p1, q⟩ := h; ⟨_, pe_sumVals hc hg hm p1 hb hline hse, rd_sumVals q⟩
end Px

namespace Px
open PySem PySem.Spec PyProof.Rows L2
/-! ### pens: an own list of two ints -/
section
variable {K : PySem.W.Frag} {al : AL} {H : Hp} {O : Om}
theorem Rel.recell (rel : Rel K al H O) {k : Nat} {c c' : Cell} (hk : O[k]? = some c) (h : ∀ o, al.l[k]? = some o → CellOk K al H c o → CellOk K al H c' o) : Rel K al H (O.set k c') := by
  refine ⟨by rw [List.length_set]; exact rel.len, rel.nd, rel.live, rel.nt, fun j d hj => ?_⟩
  by_cases e : j = k
  · subst e
    rw [List.getElem?_set_self (List.getElem?_eq_some_iff.mp hk).1] at hj
    cases hj
    obtain ⟨o, e1, q⟩ := rel.ok j c hk
    exact ⟨o, e1, h o e1 q⟩
  · rw [List.getElem?_set_ne (Ne.symm e)] at hj
    exact rel.ok j d hj
theorem pen_open (rel : Rel K al H O) {k : Nat} (hk : O[k]? = some .pen) : ∃ p q : Int, 0 ≤ p ∧ 0 ≤ q ∧ q < 2147483629 ∧ Rel K al H (O.set k (.lst [.int p, .int q])) := by
  obtain ⟨o, e, h⟩ := rel.ok k _ hk
  match o, h with
  | some (a, none), ⟨p, q, h1, h2, h3, h4⟩ =>
    refine ⟨p, q, h2, h3, h4, rel.recell hk fun o' eo _ => ?_⟩
    rw [e] at eo; cases eo
    exact ⟨_, h1, by show 2 ≤ sizeLine; rw [sizeLine_eq]; decide, .cons (.int _) (.cons (.int _) .nil)⟩
theorem pen_close (rel : Rel K al H O) {k : Nat} {p q : Int} (hk : O[k]? = some (.lst [.int p, .int q])) (hp : 0 ≤ p) (hq : 0 ≤ q) (hq2 : q < 2147483629) : Rel K al H (O.set k .pen) := by
  refine rel.recell hk fun o _ h => ?_
  match o, h with
  | some (a, none), ⟨xs, h1, _, r⟩ =>
    cases r with
    | cons c1 r => cases r with
      | cons c2 r =>
        cases r; cases c1; cases c2
        exact ⟨p, q, h1, hp, hq, hq2⟩
end
def T_take : SpX := fun ds O Q _ => match ds with
  | [.own k, .int m] => O[k]? = some .pen ∧ CW m ∧ ∀ r, 0 ≤ r → r < m → Q (.int r) O
  | _ => False
def T_takeO : SpX := fun ds O Q _ => match ds with
  | [.own k, .int m] => ∃ (O0 : Om) (p q : Int), O0[k]? = some .pen ∧ O = O0.set k (.lst [.int p, .int q]) ∧ 0 ≤ p ∧ 0 ≤ q ∧ q < 2147483629 ∧ CW m ∧ ∀ r p' q' : Int, 0 ≤ r → r < m → 0 ≤ p' → 0 ≤ q' → q' < 2147483629 → Q (.int r) (O0.set k (.lst [.int p', .int q']))
  | _ => False
theorem set_back {O : Om} {k : Nat} {c c' : Cell} (h : O[k]? = some c) : (O.set k c').set k c = O := by rw [List.set_set]; exact set_same h
theorem take_close {K : PySem.W.Frag} : ∀ vs H Q E, spX K T_take vs H Q E → spX K T_takeO vs H Q E := by
  rintro vs H Q E ⟨al, O, ds, Qx, Ex, rel, r, h, hq, he⟩
  match ds, h with
  | [.own k, .int m], ⟨h1, h2, h3⟩ =>
    obtain ⟨p, q, p0, q0, q1, rel2⟩ := pen_open rel h1
    refine ⟨al, _, [.own k, .int m], fun d O' => ∃ r p' q', d = .int r ∧ 0 ≤ r ∧ r < m ∧ 0 ≤ p' ∧ 0 ≤ q' ∧ q' < 2147483629 ∧ O' = O.set k (.lst [.int p', .int q']), fun _ _ => False, rel2, r, ⟨O, p, q, h1, rfl, p0, q0, q1, h2, fun r p' q' z1 z2 z3 z4 z5 => ⟨r, p', q', rfl, z1, z2, z3, z4, z5, rfl⟩⟩, ?_, fun _ _ _ _ _ _ _ _ _ z => z.elim⟩
    rintro al' H' O' v d s' rel' r' ⟨r, p', q', rfl, z1, z2, z3, z4, z5, rfl⟩
    cases r'
    have rel3 := pen_close rel' (List.getElem?_set_self (List.getElem?_eq_some_iff.mp h1).1) z3 z4 z5
    rw [set_back h1] at rel3
    exact hq al' H' O _ _ s' rel3 (.int _) (h3 r z1 z2)
theorem fn_take {P : Program} {w : World} {K : PySem.W.Frag} {mg : Str → Option Value} {base : Heap} {k : Nat} {f : Addr} {fd : FuncData} {ps : List Str} (F : FnX P w K mg base k f fd ps T_takeO) : FnX P w K mg base k f fd ps T_take := FnOk.imp F take_close
def T_pen : SpX := fun ds O Q _ => match ds with
  | [.int _, .int _] => Q (.own O.length) (O ++ [.pen])
  | _ => False
def T_penO : SpX := fun ds O Q _ => match ds with
  | [.int _, .int _] => ∀ p q : Int, 0 ≤ p → 0 ≤ q → q < 2147483629 → Q (.own O.length) (O ++ [.lst [.int p, .int q]])
  | _ => False
theorem pen_made {K : PySem.W.Frag} : ∀ vs H Q E, spX K T_pen vs H Q E → spX K T_penO vs H Q E := by
  rintro vs H Q E ⟨al, O, ds, Qx, Ex, rel, r, h, hq, he⟩
  match ds, h with
  | [.int c, .int k], h =>
    refine ⟨al, O, [.int c, .int k], fun d O' => ∃ p q, d = .own O.length ∧ 0 ≤ p ∧ 0 ≤ q ∧ q < 2147483629 ∧ O' = O ++ [.lst [.int p, .int q]], fun _ _ => False, rel, r, fun p q z1 z2 z3 => ⟨p, q, rfl, z1, z2, z3, rfl⟩, ?_, fun _ _ _ _ _ _ _ _ _ z => z.elim⟩
    rintro al' H' O' v d s' rel' r' ⟨p, q, rfl, z1, z2, z3, rfl⟩
    have rel3 := pen_close rel' get_new z1 z2 z3
    rw [set_new] at rel3
    exact hq al' H' _ v _ s' rel3 r' h
theorem fn_pen {P : Program} {w : World} {K : PySem.W.Frag} {mg : Str → Option Value} {base : Heap} {k : Nat} {f : Addr} {fd : FuncData} {ps : List Str} (F : FnX P w K mg base k f fd ps T_penO) : FnX P w K mg base k f fd ps T_pen := FnOk.imp F pen_made
/-! ### own lists by slices and by + -/
def xSlO (a : TX) (l u : TOX) : TX := fun G O Q E => a G O (fun d O1 => l G O1 (fun lo O2 => u G O2 (fun hi O3 => optK (lstD O3 d) fun ds => Q (.own O3.length) (O3 ++ [.lst (cutD ds lo hi)])) E) E) E
theorem rd_slO {K : PySem.W.Frag} {W : WX} {te : TE} {tl th : TO} {a : TX} {l u : TOX} (ha : RdE K W te a) (hl : RdO K W tl l) (hu : RdO K W th u) : RdE K W (tSl (rSlAny2 K) te tl th) (xSlO a l u) := by
  intro al H σ G O Q E R rel env q hq he
  refine ha al H σ G O _ E _ rel env q (fun al1 H1 O1 v d s1 rel1 r1 q1 => ?_) he
  refine hl al1 H1 σ G O1 _ E _ rel1 (env.mono s1) q1 (fun al2 H2 O2 lo s2 rel2 q2 => ?_) (fun _ _ _ _ _ _ s' => he _ _ _ _ _ _ (s1.trans s'))
  have s12 := s1.trans s2
  refine hu al2 H2 σ G O2 _ E _ rel2 (env.mono s12) q2 (fun al3 H3 O3 hi s3 rel3 q3 => ?_) (fun _ _ _ _ _ _ s' => he _ _ _ _ _ _ (s12.trans s'))
  have s13 := s12.trans s3
  have r3 := r1.mono (s2.trans s3)
  obtain ⟨ds, e1, e2⟩ := q3.ex
  obtain ⟨b, xs, rfl, hs, hr, hz⟩ := lstD_rp rel3 r3 e1
  refine .inl (.inl ⟨b, xs, rfl, hs, fun p hp => ?_⟩)
  have s4 := stp_own (o := .lst (cutV xs lo hi)) rel3.live hp
  refine hq _ _ _ _ _ (s13.trans s4) (rel3.own (c := .lst (cutD ds lo hi)) hp ⟨_, upd_same, Nat.le_trans (cutV_length xs lo hi) hz, (cut_rp hr).mono0 s4.toStp0⟩) ?_ e2
  rw [← rel3.len]
  exact own_new
theorem px_slO {X : Cx} {W : WX} {a : Expr} {lo hi : Option Expr} {pos p2 : Pos} {xa : TX} {l u : TOX} (ha : PX X W a xa) (hl : POX X W lo l) (hu : POX X W hi u) : PX X W (.Subscript a (.Slice lo hi none p2) pos) (xSlO xa l u) := let ⟨_, p, q⟩ := ha; let ⟨_, p1, q1⟩ := hl; let ⟨_, p2, q2⟩ := hu; ⟨_, pe_slice (SlR.or (SlR.or sl_list (SlR.or sl_tup sl_str)) sl_tupA) p p1 p2, rd_slO q q1 q2⟩
def dCatO (d e : D) (O : Om) (Q : QX) : Prop := optK (lstD O d) fun xs => optK (lstD O e) fun ys => xs.length + ys.length ≤ 1000000 ∧ Q (.own O.length) (O ++ [.lst (xs ++ ys)])
theorem o_catO {X : Cx} : BO X .Add dCatO := ⟨_, op_catL, fun al H O x y d e Q R rel rx ry h hq => by
  obtain ⟨ds, e1, h⟩ := h.ex
  obtain ⟨es, e2, hl, h⟩ := h.ex
  obtain ⟨a, xs, rfl, ha, ra, la⟩ := lstD_rp rel rx e1
  obtain ⟨b, ys, rfl, hb, rb, lb⟩ := lstD_rp rel ry e2
  have hz : xs.length + ys.length ≤ sizeLine := by rw [ra.length, rb.length]; exact Nat.le_trans hl line_ok
  refine ⟨a, b, xs, ys, rfl, rfl, ha, hb, hz, fun p hp => ?_⟩
  have s4 := stp_own (o := .lst (xs ++ ys)) rel.live hp
  refine hq _ _ _ _ _ s4 (rel.own (c := .lst (ds ++ es)) hp ⟨_, upd_same, by rw [List.length_append]; exact hz, (ra.append rb).mono0 s4.toStp0⟩) ?_ h
  rw [← rel.len]
  exact own_new⟩
theorem isTy_s {O : Om} {x : Str} : isTy "str" O (.str x) := rfl
theorem isTy_ll {O : Om} {x : List D} : isTy "list" O (.lst x) := rfl
end Px

namespace Px
open PySem PySem.Spec PyProof.Rows L2
/-! ### zip of two lists or two tuples -/
def dZipA (d e : D) (O : Om) (Q : List D → (Om → Prop) → Prop) : Prop := match d with
  | .tup ds => tupK e fun es => Q (zipD ds es) (fun _ => True)
  | d => dLst d O fun ds g1 => dLst e O fun es g2 => Q (zipD ds es) (fun O => g1 O ∧ g2 O)
def xZipA (a b : TX) : TIX := fun G O Q E => a G O (fun d O1 => b G O1 (fun e O2 => dZipA d e O2 fun ds g => Q ds g O2) E) E
theorem rd_zipA {K : PySem.W.Frag} {W : WX} {ta tb : TE} {a b : TX} (ha : RdE K W ta a) (hb : RdE K W tb b) : RdI K W (RZ.iZipA K (tCons ta (tCons tb tNil))) (xZipA a b) := by
  intro al H σ G O Q E R rel env q hq he
  refine ha al H σ G O _ E _ rel env q (fun al1 H1 O1 v d s1 rel1 r1 q1 => ?_) he
  refine hb al1 H1 σ G O1 _ E _ rel1 (env.mono s1) q1 (fun al2 H2 O2 w e s2 rel2 r2 q2 => ?_) (fun _ _ _ _ _ _ s' => he _ _ _ _ _ _ (s1.trans s'))
  have lstCase : (dLst d O2 fun ds g1 => dLst e O2 fun es g2 => Q (zipD ds es) (fun O => g1 O ∧ g2 O) O2) → ∃ a b xs ys, [v, w] = [V.ref a, V.ref b] ∧ ((SqL K H2 a xs ∧ SqL K H2 b ys ∧ R (Itz K a b) H2) ∨ (SqT K H2 a xs ∧ SqT K H2 b ys ∧ R (RZ.ItzT K a b) H2)) := fun q2 => by
    obtain ⟨a1, ds, g1, rfl, q3, gg1, l1⟩ := lst_later rel2 (r1.mono s2) q2
    obtain ⟨a2, es, g2, rfl, q4, gg2, l2⟩ := lst_later rel2 r2 q3
    obtain ⟨xs, b1, b2, b3⟩ := l1 al2 H2 O2 (.refl _ _) rel2 gg1
    obtain ⟨ys, c1, c2, c3⟩ := l2 al2 H2 O2 (.refl _ _) rel2 gg2
    refine ⟨a1, a2, xs, ys, rfl, .inl ⟨b1, c1, hq _ _ _ _ _ _ (s1.trans s2) rel2 (fun al' H' O' s rel' g' => ?_) (by rw [zipD_len, ← b2.length]; omega) q4⟩⟩
    obtain ⟨xs', d1, d2, d3⟩ := l1 al' H' O' s rel' g'.1
    obtain ⟨ys', e1, e2, e3⟩ := l2 al' H' O' s rel' g'.2
    refine ⟨fun i hi => ⟨xs', ys', d1, e1, ?_⟩, fun i d hd => ?_⟩
    · rw [zipD_len] at hi
      rw [d2.length, e2.length]; omega
    · obtain ⟨x, y, h1, h2, rfl⟩ := zipD_get ds es i d hd
      obtain ⟨v1, f1, f2⟩ := d2.get h1
      obtain ⟨v2, f3, f4⟩ := e2.get h2
      refine ⟨⟨xs', ys', v1, v2, d1, e1, f1, f3⟩, fun z H3 hy => ?_⟩
      obtain ⟨T, z1, z2, rfl, hT, rfl, hy1, hy2⟩ := hy
      have k1 := hy1 xs' d1
      have k2 := hy2 ys' e1
      rw [f1] at k1; cases k1
      rw [f3] at k2; cases k2
      exact ⟨stp_new rel'.live hT, upd_keep hT, new_tup rel' hT (.cons f2 (.cons f4 .nil)) (by show 2 ≤ sizeLine; rw [sizeLine_eq]; decide)⟩
  cases d with
  | tup ds =>
    obtain ⟨es, rfl, q4⟩ := tupK.ex (show tupK e (fun es => Q (zipD ds es) (fun _ => True) O2) from q2)
    obtain ⟨a1, xs, rfl, l1, f1⟩ := tup_later (r1.mono s2)
    obtain ⟨a2, ys, rfl, l2, f2⟩ := tup_later r2
    obtain ⟨b1, b2⟩ := f1 al2 H2 (.refl _ _)
    obtain ⟨c1, c2⟩ := f2 al2 H2 (.refl _ _)
    refine ⟨a1, a2, xs, ys, rfl, .inr ⟨b1, c1, hq _ _ _ _ _ _ (s1.trans s2) rel2 (fun al' H' O' s rel' g' => ?_) (by rw [zipD_len, ← b2.length]; omega) q4⟩⟩
    obtain ⟨d1, d2⟩ := f1 al' H' s
    obtain ⟨e1, e2⟩ := f2 al' H' s
    refine ⟨fun i hi => ⟨xs, ys, d1, e1, ?_⟩, fun i d hd => ?_⟩
    · rw [zipD_len] at hi
      rw [d2.length, e2.length]; omega
    · obtain ⟨x, y, h1, h2, rfl⟩ := zipD_get ds es i d hd
      obtain ⟨v1, g1, g2⟩ := d2.get h1
      obtain ⟨v2, g3, g4⟩ := e2.get h2
      refine ⟨⟨xs, ys, v1, v2, d1, e1, g1, g3⟩, fun z H3 hy => ?_⟩
      obtain ⟨T, z1, z2, rfl, hT, rfl, hy1, hy2⟩ := hy
      have k1 := hy1 xs d1
      have k2 := hy2 ys e1
      rw [g1] at k1; cases k1
      rw [g3] at k2; cases k2
      exact ⟨stp_new rel'.live hT, upd_keep hT, new_tup rel' hT (.cons g2 (.cons g4 .nil)) (by show 2 ≤ sizeLine; rw [sizeLine_eq]; decide)⟩
  | _ => exact lstCase q2
section
variable {X : Cx} {W : WX} {tg e a b : Expr} {p p2 pos tpos : Pos} {elts : List Expr} {kk : Nat}
theorem pix_zipA {t u : TX} (hg : Gl X "zip") (hm : X.mg "zip" = none) (h : PX X W a t) (h2 : PX X W b u) (hs : starEach [a, b] X.env = (false, eval a X.env) :: starEach [b] X.env := by rfl) (hs2 : starEach (b :: []) X.env = (false, eval b X.env) :: starEach [] X.env := by rfl) (hpl : (backTo pos (starEach [b] X.env)).any (·.1) = false := by rfl) :
    PIX X W (.Tuple elts kk tpos) (.Call (.Name "zip" p) [a, b] [] pos) (xZipA t u) := let ⟨_, q1, q⟩ := h; let ⟨_, q3, q2⟩ := h2; ⟨_, RZ.pi_zipA hg hm (pa_cons q1 (pa_cons q3 pa_nil hs2) hs) hs hpl, rd_zipA q q2⟩
end
/-! ### isinstance(x, (T, U)) -/
def xIsi2 (T U : Ty) (a : TX) : TX := fun G O Q E => a G O (fun d O1 => optK (tyN O1 d) fun t => Q (.bl (subT t T || subT t U)) O1) E
theorem rd_isi2 {K : PySem.W.Frag} {W : WX} {T U : Ty} {te : TE} {a : TX} (hT : kitOk T = true) (hU : kitOk U = true) (h : RdE K W te a) : RdE K W (tCB (rIsiT K) (tCons te (tCons (tTup (tCons (tC (.ty T.s)) (tCons (tC (.ty U.s)) tNil))) tNil))) (xIsi2 T U a) := by
  intro al H σ G O Q E R rel env q hq he
  refine h al H σ G O _ E _ rel env q (fun al1 H1 O1 v d s1 rel1 r1 q1 => ?_) he
  obtain ⟨t, e1, e2⟩ := optK.ex q1
  have hk := List.all_eq_true.mp hT t (ty_all t)
  have hk2 := List.all_eq_true.mp hU t (ty_all t)
  refine ⟨by show 2 ≤ sizeLine; rw [sizeLine_eq]; decide, fun p hp => ?_⟩
  have s2 : Stp al1 H1 al1 (upd H1 p (.tup [.ty T.s, .ty U.s])) := stp_new rel1.live hp
  refine ⟨v, p, [.ty T.s, .ty U.s], .type t.s, [.type T.s, .type U.s], subT t T || subT t U, rfl, upd_same, .cons (.ty T.s) (.cons (.ty U.s) .nil), ty_rp (rel1.new hp) (r1.mono s2) e1, ?_, hq _ _ _ _ _ (s1.trans s2) (rel1.new hp) (.bl _) e2⟩
  refine kitAny_cons (kit_ty (beq_iff_eq.mp hk)) (fun hb => ?_) (fun hb => by rw [hb]; rfl)
  rw [hb, Bool.false_or]
  exact kitAny_cons (kit_ty (beq_iff_eq.mp hk2)) (fun hb2 => by rw [hb2]; rfl) (fun hb2 => hb2)
section
variable {X : Cx} {W : WX} {e : Expr} {p p2 p3 pos tpos : Pos} {x y : Str} {k : Nat}
theorem px_isi2 {T U : Ty} {t : TX} (hT : kitOk T = true) (hU : kitOk U = true) (hg : Gl X "isinstance") (hm : X.mg "isinstance" = none) (hg2 : Gl X x) (hm2 : X.mg x = none) (hv2 : bootBuiltins x = some (.type T.s)) (hg3 : Gl X y) (hm3 : X.mg y = none) (hv3 : bootBuiltins y = some (.type U.s)) (h : PX X W e t)
    (hn2 : x ≠ "__name__" := by decide) (hd2 : (x == ("__debug__" : Str)) = false := by decide) (hn3 : y ≠ "__name__" := by decide) (hd3 : (y == ("__debug__" : Str)) = false := by decide)
    (ht1 : starEach [.Name x p2, .Name y p3] X.env = (false, eval (.Name x p2) X.env) :: starEach [.Name y p3] X.env := by rfl) (ht2 : starEach [.Name y p3] X.env = (false, eval (.Name y p3) X.env) :: starEach [] X.env := by rfl)
    (hs1 : starEach (e :: [.Tuple [.Name x p2, .Name y p3] k tpos]) X.env = (false, eval e X.env) :: starEach [.Tuple [.Name x p2, .Name y p3] k tpos] X.env := by rfl) (hs2 : starEach (.Tuple [.Name x p2, .Name y p3] k tpos :: []) X.env = (false, eval (.Tuple [.Name x p2, .Name y p3] k tpos) X.env) :: starEach [] X.env := by rfl) (hpl : (backTo pos (starEach [.Tuple [.Name x p2, .Name y p3] k tpos] X.env)).any (·.1) = false := by rfl) :
    PX X W (.Call (.Name "isinstance" p) [e, .Tuple [.Name x p2, .Name y p3] k tpos] [] pos) (xIsi2 T U t) := let ⟨_, p, q⟩ := h
  ⟨_, pe_callB call_isiT hg hm (by decide +kernel) (pa_cons p (pa_cons (pe_tup (pa_cons (pe_bltn (v := .ty T.s) hg2 hm2 hv2 rfl hn2 hd2) (pa_cons (pe_bltn (v := .ty U.s) hg3 hm3 hv3 rfl hn3 hd3) pa_nil ht2) ht1)) pa_nil hs2) hs1) (by decide) (by decide) hs1 hpl, rd_isi2 hT hU q⟩
end
end Px

/-! ### sorted(tuples with unlike firsts), texts or ints -/
namespace SrtT
open PySem PySem.Spec PyProof.Rows L2
open SrtO hiding Str
def kIs : Key → Value → Prop
  | .inl i, v => ∃ t, v = .int i t
  | .inr x, v => ∃ t, v = .str x t
def IsTupK (h : Heap) (v : Value) (f : Key) : Prop := ∃ a o u r n, v = .ref a ∧ h.get? a = some o ∧ o.cls = .type "tuple" ∧ o.data = .seq (u :: r).toArray n ∧ kIs f u
theorem IsTupK.keeps {h h' : Heap} {v : Value} {f : Key} (p : IsTupK h v f) (k : ∀ b o, h.get? b = some o → o.cls = .type "tuple" → h'.get? b = some o) : IsTupK h' v f := by
  obtain ⟨a, o, u, r, n, e, ho, hc, hd⟩ := p
  exact ⟨a, o, u, r, n, e, k _ _ ho hc, hc, hd⟩
def ltK : Key → Key → Bool
  | .inl i, .inl j => decide (i < j)
  | .inr x, .inr y => decide (x.cps.toList < y.cps.toList)
  | .inl _, .inr _ => true
  | .inr _, .inl _ => false
theorem ltK_asym : ∀ {a b : Key}, ltK a b = true → ltK b a = false
  | .inl i, .inl j, h => decide_eq_false (by have := of_decide_eq_true (p := i < j) h; omega)
  | .inr x, .inr y, h => decide_eq_false (List.lt_asymm (of_decide_eq_true (p := x.cps.toList < y.cps.toList) h))
  | .inl _, .inr _, _ => rfl
  | .inr _, .inl _, h => nomatch h
theorem ltK_tr : ∀ {a b c : Key}, ltK b a = false → ltK c b = false → ltK c a = false
  | .inl i, .inl j, .inl k, h1, h2 => decide_eq_false (by have := of_decide_eq_false (p := j < i) h1; have := of_decide_eq_false (p := k < j) h2; omega)
  | .inr x, .inr y, .inr z, h1, h2 => decide_eq_false (List.not_lt.mpr (List.le_trans (List.not_lt.mp (of_decide_eq_false (p := y.cps.toList < x.cps.toList) h1)) (List.not_lt.mp (of_decide_eq_false (p := z.cps.toList < y.cps.toList) h2))))
  | .inl _, .inl _, .inr _, _, _ => rfl
  | .inl _, .inr _, .inr _, _, _ => rfl
  | .inl _, .inr _, .inl _, _, h2 => nomatch h2
  | .inr _, .inl _, _, h1, _ => nomatch h1
  | .inr _, .inr _, .inl _, _, h2 => nomatch h2
theorem ltK_anti : ∀ {a b : Key}, ltK a b = false → ltK b a = false → a = b
  | .inl i, .inl j, h1, h2 => congrArg Sum.inl (by have := of_decide_eq_false (p := i < j) h1; have := of_decide_eq_false (p := j < i) h2; omega)
  | .inr x, .inr y, h1, h2 => congrArg Sum.inr (SrtP.str_of_cps (List.le_antisymm (List.not_lt.mp (of_decide_eq_false (p := y.cps.toList < x.cps.toList) h2)) (List.not_lt.mp (of_decide_eq_false (p := x.cps.toList < y.cps.toList) h1))))
  | .inl _, .inr _, h1, _ => nomatch h1
  | .inr _, .inl _, _, h2 => nomatch h2
theorem swoK {α : Type} (k : α → Key) : Swo fun v u => ltK (k v) (k u) := ⟨fun _ _ h => ltK_asym h, fun _ _ _ h1 h2 => ltK_tr h1 h2⟩
section
variable {prog : Program} {w : World} {A : Around} {E : Value → Shared → Prop} {s : Shared}
theorem lex_same {Q : Bool → Shared → Prop} {fin : Bool} (h : Q fin s) : ∀ (l : List Value) (i : Nat), PySem.W.KatLex prog w A true fin Q (l.zip l) i s
  | [], _ => h
  | v :: l, i => PySem.W.kat_cons (SeqAt.EqAt.same v prog w _ _ (PySem.W.kat_yes (lex_same h l (i + 1))))
theorem tupK_cmp {vs : List Value} {k : Value → Key} (b : Bool) (hp : ∀ v ∈ vs, IsTupK s.heap v (k v)) (hb : ∀ v ∈ vs, (k v).isLeft = b) (hi : ∀ v ∈ vs, ∀ u ∈ vs, k v = k u → v = u) : Cmp prog w A s (tuples' true) (fun p => p.1 ∈ vs) (lt2 fun v u => ltK (k v) (k u)) := by
  intro p q hm hm'
  have h1 := hp _ hm
  have h2 := hp _ hm'
  show wpAny (model prog w) A (keyLt' (tuples' true) p.1 q.1) (fun r s' => s' = s ∧ r = ltK (k p.1) (k q.1)) (fun _ _ => False) s
  by_cases e : k p.1 = k q.1
  · have e2 := hi _ hm _ hm' e
    rw [← e2]
    obtain ⟨a, o, u, r, n, ea, ho, hc, hd, hk⟩ := h1
    rw [ea]
    refine PySem.W.kat_lt ho hd ho hd ?_
    refine lex_same ?_ _ 0
    rw [show ltK (k (.ref a)) (k (.ref a)) = false from (swoK k).refl _]
    exact ⟨rfl, decide_eq_false (Nat.lt_irrefl _)⟩
  · have b1 := hb _ hm
    have b2 := hb _ hm'
    generalize k p.1 = x at h1 b1 e ⊢
    generalize k q.1 = y at h2 b2 e ⊢
    obtain ⟨a, o, u, r, n, ea, ho, hc, hd, hk⟩ := h1
    obtain ⟨a', o', u', r', n', ea', ho', hc', hd', hk'⟩ := h2
    rw [ea, ea']
    refine PySem.W.kat_lt ho hd ho' hd' ?_
    rw [List.toList_toArray, List.toList_toArray, List.zip_cons_cons]
    cases x with
    | inl i =>
      cases y with
      | inr z => subst b1; cases b2
      | inl j =>
        obtain ⟨t, rfl⟩ := hk
        obtain ⟨t', rfl⟩ := hk'
        refine PySem.W.kat_cons (SeqAt.EqAt.int_int i t j t' prog w _ _ ?_)
        refine PySem.W.kat_go (fun e1 => absurd (congrArg Sum.inl (by simpa using e1)) e) (fun e1 => ?_)
        exact PySem.W.kat_no (oneLt_int (show _ ∧ _ from ⟨rfl, rfl⟩))
    | inr z =>
      cases y with
      | inl z => subst b1; cases b2
      | inr z' =>
        obtain ⟨t, rfl⟩ := hk
        obtain ⟨t', rfl⟩ := hk'
        refine PySem.W.kat_cons (SeqAt.EqAt.str_str z t z' t' prog w _ _ ?_)
        refine PySem.W.kat_go (fun e1 => absurd (congrArg Sum.inr (by simpa using e1)) e) (fun e1 => ?_)
        exact PySem.W.kat_no (oneLt_str (show _ ∧ _ from ⟨rfl, rfl⟩))
theorem firsts_ofK {h : Heap} : ∀ {vs : List Value} {k : Value → Key}, (∀ v ∈ vs, IsTupK h v (k v)) → ∃ fs : List Value, PySem.W.KatTups h vs fs ∧ fs.length = vs.length ∧ ∀ f ∈ fs, ∃ v ∈ vs, kIs (k v) f
  | [], _, _ => ⟨[], PySem.W.KatTups.nil, rfl, fun _ hm => by simp at hm⟩
  | v :: vs, k, hp => by
    obtain ⟨fs, h1, h2, h3⟩ := firsts_ofK (vs := vs) fun v' hm => hp v' (List.mem_cons_of_mem _ hm)
    obtain ⟨a, o, u, r, n, e, ho, hc, hd, hk⟩ := hp v (List.mem_cons_self ..)
    subst e
    refine ⟨u :: fs, PySem.W.KatTups.cons ho hc hd rfl h1, by rw [List.length_cons, List.length_cons, h2], fun f hm => ?_⟩
    rcases List.mem_cons.mp hm with rfl | hm
    · exact ⟨_, List.mem_cons_self .., hk⟩
    · obtain ⟨v', hv', z⟩ := h3 f hm
      exact ⟨v', List.mem_cons_of_mem _ hv', z⟩
theorem tupK_sortable {a : Addr} {vs : List Value} {k : Value → Key} (b : Bool) (h0 : 0 < vs.length) (hp : ∀ v ∈ vs, IsTupK s.heap v (k v)) (hb : ∀ v ∈ vs, (k v).isLeft = b) (hi : ∀ v ∈ vs, ∀ u ∈ vs, k v = k u → v = u) (ha : ∀ o, s.heap.get? a = some o → o.cls ≠ .type "tuple") : SortableO prog w A s a vs fun v u => ltK (k v) (k u) := by
  intro h' keep
  have hp' : ∀ v ∈ vs, IsTupK h' v (k v) := fun v hm => (hp v hm).keeps fun b o e c => keep b o (fun z => by subst z; exact ha o e c) e
  obtain ⟨fs, h1, h2, h3⟩ := firsts_ofK hp'
  refine ⟨tuples' true, fun Q E hq => ?_, tupK_cmp b hp' hb hi⟩
  cases b with
  | true =>
    refine PySem.W.kat_kind (T := .type "int") h1 (by omega) (fun f hm => ?_) (by rfl) ?_
    · obtain ⟨v, hv, z⟩ := h3 f hm
      have := hb v hv
      cases e : k v with
      | inr x => rw [e] at this; cases this
      | inl i => rw [e] at z; obtain ⟨t, rfl⟩ := z; exact PySem.W.Looks.now
    · have e : (Value.type "int" != Value.type "tuple") = true := by first | decide +kernel | rfl | decide
      rw [e]
      exact hq
  | false =>
    refine PySem.W.kat_kind (T := .type "str") h1 (by omega) (fun f hm => ?_) (by rfl) ?_
    · obtain ⟨v, hv, z⟩ := h3 f hm
      have := hb v hv
      cases e : k v with
      | inl x => rw [e] at this; cases this
      | inr i => rw [e] at z; obtain ⟨t, rfl⟩ := z; exact PySem.W.Looks.now
    · have e : (Value.type "str" != Value.type "tuple") = true := by first | decide +kernel | rfl | decide
      rw [e]
      exact hq
theorem sorted_tupK {l : Addr} {vs : List Value} {k : Value → Key} (b : Bool) {Q : Value → Shared → Prop} (hl : s.heap.IsList l vs.toArray) (hz : vs.length ≤ sizeLine) (hp : ∀ v ∈ vs, IsTupK s.heap v (k v)) (hb : ∀ v ∈ vs, (k v).isLeft = b) (hi : ∀ v ∈ vs, ∀ u ∈ vs, k v = k u → v = u)
    (h : ∀ (h' : Heap) (d : Addr) (out : List Value), Srtd (fun v u => ltK (k v) (k u)) out → Stb (fun v u => ltK (k v) (k u)) out vs → (∀ b o, s.heap.get? b = some o → h'.get? b = some o) → s.heap.objs.size ≤ d → (∃ n, h'.get? d = some (seqObj "list" out.toArray n)) → Q (.ref d) { s with heap := h' }) :
    wpAny (model prog w) A (call (.builtin "sorted") [.ref l]) Q E s := by
  refine sorted_ord (swoK k) hl hz (fun h2 h₁ a ha kk => ?_) fun out hs hb => ?_
  · refine tupK_sortable (s := { s with heap := h₁ }) b (by omega) (fun v hm => (hp v hm).keeps fun b o e _ => (kk b o e).2) hb hi fun o e => ?_
    have e' : some o = some (seqObj "list" vs.toArray 0) := e.symm.trans ha
    cases e'
    intro c
    exact absurd (Value.type.inj c) (by decide)
  · exact h _ _ out hs hb (fun b o e => sortedAll_old e) (Nat.le_succ _) (sortedAll_at s.heap vs out.toArray)
end
end SrtT
namespace Px
open PySem PySem.Spec PyProof.Rows L2
def TK (K : PySem.W.Frag) (H : Hp) (x : V) (f : Key) : Prop := ∃ t ws, x = V.ref t ∧ SqT K H t (kV f :: ws)
def rSortT (K : PySem.W.Frag) : List V → Hp → VK → Prop := fun vs H Q => ∃ (a : Addr) (xs : List V) (ks : List Key) (b : Bool), vs = [V.ref a] ∧ SqL K H a xs ∧ xs.length = ks.length ∧ (∀ (i : Nat) x f, xs[i]? = some x → ks[i]? = some f → TK K H x f) ∧ ks.Nodup ∧ (∀ f ∈ ks, f.isLeft = b) ∧
  ∀ k : V → Key, (∀ (i : Nat) x f, xs[i]? = some x → ks[i]? = some f → k x = f) → ∀ ys p, SrtO.Srtd (fun x y => SrtT.ltK (k x) (k y)) ys → SrtO.Stb (fun x y => SrtT.ltK (k x) (k y)) ys xs → H p = none → Q (.ref p) (upd H p (.lst ys))
section
variable {X : Cx}
theorem kV_kIs {f : Key} {u : Value} (r : RelV (kV f) u) : SrtT.kIs f u := by
  cases f <;> exact r
theorem cr_sortT : CallR X (.builtin "sorted") (rSortT X.K) := by
  intro pins s σ H vs us Q I r h
  obtain ⟨a, xs, ks, b, rfl, hs, hlen, hix, hnd, hkb, q⟩ := h
  have key : ∀ x ∈ xs, ∃ (i : Nat) (f : Key), xs[i]? = some x ∧ ks[i]? = some f := fun x m => by
    obtain ⟨i, hi⟩ := List.getElem?_of_mem m
    have hl := (List.getElem?_eq_some_iff.mp hi).1
    exact ⟨i, ks[i]'(by omega), hi, List.getElem?_eq_getElem (by omega)⟩
  have hx : ∀ x ∈ xs, ∃ f, TK X.K H x f ∧ f.isLeft = b := fun x m => by
    obtain ⟨i, f, h1, h2⟩ := key x m
    exact ⟨f, hix i x f h1 h2, hkb f (List.mem_of_getElem? h2)⟩
  obtain ⟨its, rv, hl, hz⟩ := I.list hs
  obtain ⟨u, rfl, ru⟩ := vals1 r
  obtain rfl : u = Value.ref a := ru
  obtain ⟨e1, e2⟩ := refs_back rv fun x m => by
    obtain ⟨_, ⟨t, _, e, _⟩, _⟩ := hx x m
    exact ⟨t, e⟩
  have tup : ∀ t f, TK X.K H (.ref t) f → SrtT.IsTupK s.heap (.ref t) f := fun t f ⟨t', ws, e, h⟩ => by
    cases e
    obtain ⟨its, r, ⟨o, ho, hc, n, hd⟩, _⟩ := I.tuple h
    cases r with
    | cons r1 r2 => exact ⟨t, o, _, _, n, rfl, ho, hc, hd, kV_kIs r1⟩
  have uniq : ∀ t f g, TK X.K H (.ref t) f → TK X.K H (.ref t) g → f = g := fun t f g h h' => by
    obtain ⟨a1, o, u1, r1, n, e, ho, hc, hd, k1⟩ := tup t f h
    obtain ⟨a2, o', u2, r2, n', e', ho', hc', hd', k2⟩ := tup t g h'
    cases e; cases e'
    rw [ho] at ho'
    cases ho'
    rw [hd] at hd'
    injection hd' with q1 q2
    have q3 := congrArg Array.toList q1
    simp at q3
    obtain ⟨q4, _⟩ := q3
    subst q4
    cases f <;> cases g
    · obtain ⟨t1, rfl⟩ := k1; obtain ⟨t2, e⟩ := k2; cases e; rfl
    · obtain ⟨t1, rfl⟩ := k1; obtain ⟨t2, e⟩ := k2; cases e
    · obtain ⟨t1, rfl⟩ := k1; obtain ⟨t2, e⟩ := k2; cases e
    · obtain ⟨t1, rfl⟩ := k1; obtain ⟨t2, e⟩ := k2; cases e; rfl
  have hinj : ∀ x ∈ xs, ∀ y ∈ xs, ∀ f, TK X.K H x f → TK X.K H y f → x = y := fun x hx' y hy' f h1 h2 => by
    obtain ⟨i, f1, e3, e4⟩ := key x hx'
    obtain ⟨j, f2, e5, e6⟩ := key y hy'
    have a1 := hix i x f1 e3 e4
    have a2 := hix j y f2 e5 e6
    obtain ⟨t, _, rfl, _⟩ := id a1
    obtain ⟨t', _, rfl, _⟩ := id a2
    have b1 := uniq _ _ _ a1 h1
    have b2 := uniq _ _ _ a2 h2
    subst b1 b2
    have hij : i = j := (List.getElem?_inj (List.getElem?_eq_some_iff.mp e4).1 hnd).mp (e4.trans e6.symm)
    subst hij
    rw [e3] at e5
    cases e5
    rfl
  classical
  let k : V → Key := fun x => if h : ∃ f, TK X.K H x f then h.choose else .inl 0
  have hk : ∀ x ∈ xs, ∀ f, TK X.K H x f → k x = f := fun x _ f h => by
    have ex : ∃ f, TK X.K H x f := ⟨f, h⟩
    have e1 : k x = ex.choose := dif_pos ex
    obtain ⟨t', ws, e', h'⟩ := ex.choose_spec
    rw [e1]
    have h2 : TK X.K H x ex.choose := ex.choose_spec
    subst e'
    exact uniq _ _ _ h2 h
  have mem : ∀ v ∈ its, ∃ t, v = Value.ref t ∧ V.ref t ∈ xs := fun v hv => by
    obtain ⟨t, rfl⟩ := e2 v hv
    exact ⟨t, rfl, by rw [e1]; exact List.mem_map.mpr ⟨_, hv, rfl⟩⟩
  refine SrtT.sorted_tupK (k := fun u => k (backV u)) b hl.isList (by rw [← rv.length]; exact hz) (fun v hv => ?_) (fun v hv => ?_) (fun v hv u hu e => ?_) fun h' d out h1 h2 kp hd hn => ?_
  · obtain ⟨t, rfl, hm⟩ := mem v hv
    obtain ⟨f, hf, _⟩ := hx _ hm
    show SrtT.IsTupK s.heap (.ref t) (k (V.ref t))
    rw [hk _ hm f hf]
    exact tup t f hf
  · obtain ⟨t, rfl, hm⟩ := mem v hv
    obtain ⟨f, hf, hb⟩ := hx _ hm
    show (k (V.ref t)).isLeft = b
    rw [hk _ hm f hf]
    exact hb
  · obtain ⟨t, rfl, hm⟩ := mem v hv
    obtain ⟨t', rfl, hm'⟩ := mem u hu
    obtain ⟨f, hf, _⟩ := hx _ hm
    obtain ⟨g, hg, _⟩ := hx _ hm'
    have e : k (V.ref t) = k (V.ref t') := e
    rw [hk _ hm f hf, hk _ hm' g hg] at e
    subst e
    have := hinj _ hm _ hm' f hf hg
    cases this
    rfl
  · have h3 : ∀ u ∈ out, ∃ a, u = Value.ref a := fun u hu => e2 u (h2.perm.mem_iff.mp hu)
    obtain ⟨n, hn⟩ := hn
    have hb : SrtO.Stb (fun x y => SrtT.ltK (k x) (k y)) (out.map backV) xs := by
      rw [e1]
      exact SrtO.Stb.map (lt := fun x y => SrtT.ltK (k x) (k y)) (SrtT.swoK k) backV h2
    refine ⟨.ref d, upd H d (.lst (out.map backV)), I.laid (t' := s.toks) kp hd ⟨?_, out, n, vals_back h3, hn⟩, rfl, q k (fun i x f h1 h2 => hk x (List.mem_of_getElem? h1) f (hix i x f h1 h2)) _ d (SrtO.srtd_map h1) hb (I.hok.fresh hd)⟩
    rw [hb.len]
    exact hz
end
def fkD (d : D) : Option Key := match d with
  | .tup (.int i :: _) => some (.inl i)
  | .tup (.str x :: _) => some (.inr x)
  | _ => none
def kyF (d : D) : Key := (fkD d).getD (.inl 0)
def ltF (a b : D) : Bool := SrtT.ltK (kyF a) (kyF b)
/-- tuples by their firsts -/
def sortF (es : List D) : List D := es.mergeSort fun a b => !ltF b a
def dSrtT (ds : List D) (O : Om) (Q : QX) : Prop := match ds with
  | [d] => optK (lstD O d) fun es => (∃ (ks : List Key) (b : Bool), es.map fkD = ks.map some ∧ ks.Nodup ∧ ∀ k ∈ ks, k.isLeft = b) ∧ Q (.lst (sortF es)) O
  | _ => False
theorem fk_tk {K : PySem.W.Frag} {al : AL} {H : Hp} {v : V} {d : D} {f : Key} (r : Rp K al H v d) (h : fkD d = some f) : TK K H v f := by
  unfold fkD at h
  split at h
  · cases h
    obtain ⟨t, ws, rfl, h1, h2, _⟩ := r.tupI
    cases h2 with
    | cons r1 r2 => cases r1; exact ⟨t, _, rfl, h1⟩
  · cases h
    obtain ⟨t, ws, rfl, h1, h2, _⟩ := r.tupI
    cases h2 with
    | cons r1 r2 => cases r1; exact ⟨t, _, rfl, h1⟩
  · cases h
theorem kyF_some {a : D} {k : Key} (h1 : fkD a = some k) : kyF a = k := by unfold kyF; rw [h1]; rfl
theorem leF_tot (a b : D) : (!ltF b a || !ltF a b) = true := by
  unfold ltF
  cases h : SrtT.ltK (kyF b) (kyF a) with
  | false => rfl
  | true => rw [SrtT.ltK_asym h]; rfl
theorem leF_tr (a b c : D) (h1 : (!ltF b a) = true) (h2 : (!ltF c b) = true) : (!ltF c a) = true := by
  unfold ltF at *
  rw [Bool.not_eq_true'] at h1 h2 ⊢
  exact SrtT.ltK_tr h1 h2
theorem sortF_perm (es : List D) : (sortF es).Perm es := List.mergeSort_perm _ _
theorem sortF_pw (es : List D) : (sortF es).Pairwise fun a b => ltF b a = false := (List.pairwise_mergeSort (le := fun a b => !ltF b a) leF_tr leF_tot es).imp fun h => by simpa using h
theorem fk_inj {es : List D} {ks : List Key} (he : es.map fkD = ks.map some) (nd : ks.Nodup) : ∀ a ∈ es, ∀ b ∈ es, kyF a = kyF b → a = b := fun a ha b hb e => by
  have hk : ∀ d ∈ es, ∃ k, fkD d = some k := fun d hd => by
    have : fkD d ∈ es.map fkD := List.mem_map.mpr ⟨d, hd, rfl⟩
    rw [he] at this
    obtain ⟨k, _, e⟩ := List.mem_map.mp this
    exact ⟨k, e.symm⟩
  obtain ⟨x, ea⟩ := hk a ha
  obtain ⟨y, eb⟩ := hk b hb
  rw [kyF_some ea, kyF_some eb] at e
  subst e
  obtain ⟨i, hi⟩ := List.getElem?_of_mem ha
  obtain ⟨j, hj⟩ := List.getElem?_of_mem hb
  have g : ∀ (i : Nat) d, es[i]? = some d → fkD d = some x → ks[i]? = some x := fun i d h1 h2 => by
    have e1 : (es.map fkD)[i]? = some (some x) := by rw [List.getElem?_map, h1, ← h2]; rfl
    rw [he, List.getElem?_map] at e1
    obtain ⟨z, e2, e3⟩ := Option.map_eq_some_iff.mp e1
    rw [e2, Option.some.inj e3]
  have e1 := g i a hi ea
  have e2 := g j b hj eb
  have hij : i = j := (List.getElem?_inj (List.getElem?_eq_some_iff.mp e1).1 nd).mp (e1.trans e2.symm)
  subst hij
  rw [hi] at hj
  exact Option.some.inj hj
theorem sortF_uniq {es ys : List D} {ks : List Key} (he : es.map fkD = ks.map some) (nd : ks.Nodup) (hp : ys.Perm es) (hs : ys.Pairwise fun a b => ltF b a = false) : ys = sortF es :=
  List.Perm.eq_of_pairwise (fun a b ha hb h1 h2 => fk_inj he nd a (hp.mem_iff.mp ha) b ((sortF_perm es).mem_iff.mp hb) (SrtT.ltK_anti h2 h1)) hs (sortF_pw es) (hp.trans (sortF_perm es).symm)
theorem f_sortT {X : Cx} : FO X (.builtin "sorted") dSrtT := ⟨_, cr_sortT, fun al H O xs ds Q R rel r h hq => by
  match ds, h with
  | [d], h =>
    obtain ⟨es, e1, ⟨ks, b, he, hnd, hkb⟩, q⟩ := optK.ex h
    obtain ⟨v, rfl, rv⟩ := r.one
    obtain ⟨a, us, rfl, hs, hr, hz⟩ := lstD_rp rel rv e1
    have hlen : es.length = ks.length := by have := congrArg List.length he; simpa using this
    have fkAt : ∀ (i : Nat) d f, es[i]? = some d → ks[i]? = some f → fkD d = some f := fun i d f h1 h2 => by
      have e1 : (es.map fkD)[i]? = some (fkD d) := by rw [List.getElem?_map, h1]; rfl
      rw [he, List.getElem?_map, h2] at e1
      exact (Option.some.inj e1).symm
    refine ⟨a, us, ks, b, rfl, hs, hr.length.trans hlen, fun i x f h1 h2 => ?_, hnd, hkb, fun k hk ys p h1 h2 hp => ?_⟩
    · obtain ⟨d, hd, rx⟩ := hr.getV h1
      exact fk_tk rx (fkAt i d f hd h2)
    · have ex : ∀ z ∈ us, ∃ (i : Nat) (d : D), us[i]? = some z ∧ es[i]? = some d ∧ Rp X.K al H z d ∧ kyF d = k z := fun z hz => by
        obtain ⟨i, hi⟩ := List.getElem?_of_mem hz
        obtain ⟨d, hd, rx⟩ := hr.getV hi
        have li := (List.getElem?_eq_some_iff.mp hd).1
        have hf := List.getElem?_eq_getElem (l := ks) (i := i) (by omega)
        exact ⟨i, d, hi, hd, rx, by rw [kyF_some (fkAt i d _ hd hf), hk i z _ hi hf]⟩
      classical
      let g : V → D := fun z => if h : ∃ d, d ∈ es ∧ Rp X.K al H z d ∧ kyF d = k z then h.choose else .non
      have hg : ∀ z ∈ us, g z ∈ es ∧ Rp X.K al H z (g z) ∧ kyF (g z) = k z := fun z hz => by
        obtain ⟨i, d, _, h3, h4, h5⟩ := ex z hz
        have hh : ∃ d, d ∈ es ∧ Rp X.K al H z d ∧ kyF d = k z := ⟨d, List.mem_of_getElem? h3, h4, h5⟩
        have e : g z = hh.choose := dif_pos hh
        rw [e]
        exact hh.choose_spec
      have hgus : us.map g = es := by
        refine List.ext_getElem? fun i => ?_
        rw [List.getElem?_map]
        cases e : us[i]? with
        | none =>
          have l := hr.length
          rw [List.getElem?_eq_none_iff] at e
          rw [List.getElem?_eq_none (by omega)]; rfl
        | some z =>
          obtain ⟨d, hd, rx⟩ := hr.getV e
          have li := (List.getElem?_eq_some_iff.mp hd).1
          have hf := List.getElem?_eq_getElem (l := ks) (i := i) (by omega)
          obtain ⟨m1, m2, m3⟩ := hg z (List.mem_of_getElem? e)
          rw [hd]
          show some (g z) = some d
          refine congrArg some (fk_inj he hnd _ m1 _ (List.mem_of_getElem? hd) ?_)
          rw [m3, kyF_some (fkAt i d _ hd hf), hk i z _ e hf]
      have hperm : (ys.map g).Perm es := by rw [← hgus]; exact h2.perm.map g
      have hys : ys.map g = sortF es := sortF_uniq he hnd hperm (List.pairwise_map.mpr (List.Pairwise.imp_of_mem (fun {a b} ha hb q => by
        unfold ltF
        rw [(hg a (h2.perm.mem_iff.mp ha)).2.2, (hg b (h2.perm.mem_iff.mp hb)).2.2]
        exact q) h1))
      have new : RpA X.K al H ys (ys.map g) := by
        have gen : ∀ zs : List V, (∀ z ∈ zs, z ∈ us) → RpA X.K al H zs (zs.map g) := by
          intro zs
          induction zs with
          | nil => intro _; exact .nil
          | cons z zs ih =>
            intro hz
            exact .cons (hg z (hz z List.mem_cons_self)).2.1 (ih fun y hy => hz y (List.mem_cons_of_mem _ hy))
        exact gen ys fun z hz => h2.perm.mem_iff.mp hz
      refine hq _ _ _ _ _ (stp_new rel.live hp) (rel.new hp) (new_lst rel hp ?_ (by rw [h2.perm.length_eq]; exact hz)) q
      rw [← hys]; exact new⟩
end Px

namespace Px
open PySem PySem.Spec PyProof.Rows L2
/-! ### x[::-1], a list of one's own -/
section
variable {X : Cx} {W : WX} {e : Expr} {te : TE} {k : Nat} {p1 p2 p3 pos : Pos}
def xRevO (a : TX) : TX := fun G O Q E => a G O (fun d O1 => optK (lstD O1 d) fun ds => Q (.own O1.length) (O1 ++ [.lst ds.reverse])) E
theorem px_revO {t : TX} (h : PX X W e t) : PX X W (.Subscript e (.Slice none none (some (.UnaryOp .USub (.Constant (.int 1) k p1) p2)) p3) pos) (xRevO t) := by
  obtain ⟨te, p, q⟩ := h
  refine ⟨_, pe_revA p, fun al H σ G O Q E R rel env h hq he => ?_⟩
  refine q al H σ G O _ E _ rel env h (fun al1 H1 O1 v d s1 rel1 r1 z1 => ?_) he
  obtain ⟨ds, e1, h⟩ := z1.ex
  obtain ⟨a, xs, rfl, hs, hr, hz⟩ := lstD_rp rel1 r1 e1
  refine .inl ⟨a, xs, rfl, hs, fun p hp => ?_⟩
  have s4 := stp_own (o := .lst xs.reverse) rel1.live hp
  refine hq _ _ _ _ _ (s1.trans s4) (rel1.own (c := .lst ds.reverse) hp ⟨_, upd_same, by rw [List.length_reverse]; exact hz, hr.reverse.mono0 s4.toStp0⟩) ?_ h
  rw [← rel1.len]
  exact own_new
end
/-! ### == of lists that hold own lists -/
def snN : Nat → Om → D → D
  | 0, _, d => d
  | n + 1, O, .own k => match O[k]? with
    | some (.lst ds) => .lst (ds.map (snN n O))
    | _ => .own k
  | n + 1, O, .lst ds => .lst (ds.map (snN n O))
  | n + 1, O, .tup ds => .tup (ds.map (snN n O))
  | _ + 1, _, d => d
theorem pys_dp {K : PySem.W.Frag} {al : AL} {H : Hp} {f : D → D} (h : ∀ d v p, Rp K al H v d → (f d).py = some p → Dp K H v p ∧ p.canLay0 = true) : ∀ (ds : List D) (vs : List V) (ps : List PyData), RpA K al H vs ds → D.pys (ds.map f) = some ps → DpAll K H vs ps ∧ PyData.canLayAll0 ps = true
  | [], vs, ps, r, e => by cases e; cases r; exact ⟨.nil, by simp [PyData.canLayAll0]⟩
  | d :: ds, vs, ps, r, e => by
    simp only [List.map_cons, D.pys] at e
    split at e
    · rename_i p ps' e1 e2
      cases e
      cases r with
      | cons h1 h2 =>
        have z1 := h d _ p h1 e1
        have z2 := pys_dp h ds _ ps' h2 e2
        exact ⟨.cons z1.1 z2.1, by simp [PyData.canLayAll0, z1.2, z2.2]⟩
    · cases e
theorem snN_dp {K : PySem.W.Frag} {al : AL} {H : Hp} {O : Om} (rel : Rel K al H O) : ∀ (n : Nat) (d : D) (v : V) (p : PyData), Rp K al H v d → (snN n O d).py = some p → Dp K H v p ∧ p.canLay0 = true
  | 0, d, v, p, r, e => Rp.dp d v p r e
  | n + 1, .non, v, p, r, e => Rp.dp _ v p r e
  | n + 1, .bl _, v, p, r, e => Rp.dp _ v p r e
  | n + 1, .int _, v, p, r, e => Rp.dp _ v p r e
  | n + 1, .str _, v, p, r, e => Rp.dp _ v p r e
  | n + 1, .adr _, v, p, r, e => Rp.dp _ v p r e
  | n + 1, .tup ds, v, p, r, e => by
    simp only [snN, D.py, Option.map_eq_some_iff] at e
    obtain ⟨ps, e1, rfl⟩ := e
    obtain ⟨a, xs, rfl, h1, h2, _⟩ := r.tupI
    have z := pys_dp (fun d v p => snN_dp rel n d v p) ds xs ps h2 e1
    exact ⟨.tup h1 z.1, by simpa [PyData.canLay0] using z.2⟩
  | n + 1, .lst ds, v, p, r, e => by
    simp only [snN, D.py, Option.map_eq_some_iff] at e
    obtain ⟨ps, e1, rfl⟩ := e
    obtain ⟨a, xs, rfl, h1, h2, _⟩ := r.lstI
    have z := pys_dp (fun d v p => snN_dp rel n d v p) ds xs ps h2 e1
    exact ⟨.lst h1 z.1, by simpa [PyData.canLay0] using z.2⟩
  | n + 1, .own k, v, p, r, e => by
    cases ec : O[k]? with
    | none => simp only [snN, ec] at e; cases e
    | some c =>
      cases c with
      | lst ds =>
        simp only [snN, ec, D.py, Option.map_eq_some_iff] at e
        obtain ⟨ps, e1, rfl⟩ := e
        obtain ⟨a, xs, rfl, h0, h1, h2, h3⟩ := r.ownL rel ec
        have z := pys_dp (fun d v p => snN_dp rel n d v p) ds xs ps h3 e1
        exact ⟨.lst (.inl (.inl h1)) z.1, by simpa [PyData.canLay0] using z.2⟩
      | _ => simp only [snN, ec] at e; cases e
def dEqN (d e : D) (O : Om) (Q : QX) : Prop := D.ok 20 (snN 6 O d) = true ∧ D.ok 20 (snN 6 O e) = true ∧ Q (.bl (D.eq (snN 6 O d) (snN 6 O e))) O
def dNeN (d e : D) (O : Om) (Q : QX) : Prop := D.ok 20 (snN 6 O d) = true ∧ D.ok 20 (snN 6 O e) = true ∧ Q (.bl (!D.eq (snN 6 O d) (snN 6 O e))) O
section
variable {X : Cx}
theorem c_eqN (hr : Un0 X.A) : CO X .Eq dEqN := ⟨_, op_eqD hr.le64, fun al H O x y d e Q R rel rx ry h hq => by
  obtain ⟨h1, h2, h3⟩ := h
  obtain ⟨p, e1, l1⟩ := D.ok_py 20 _ (by omega) h1
  obtain ⟨q, e2, l2⟩ := D.ok_py 20 _ (by omega) h2
  have z1 := snN_dp rel 6 _ _ _ rx e1
  have z2 := snN_dp rel 6 _ _ _ ry e2
  refine ⟨p, q, z1.1, z2.1, shaped_ok h1 e1 z1.2, shaped_ok h2 e2 z2.2, ?_⟩
  rw [D.py_eqv _ _ _ _ e1 e2]
  exact hq _ _ _ _ _ (Stp.refl _ _) rel (.bl _) h3⟩
theorem c_neN (hr : Un0 X.A) : CO X .NotEq dNeN := ⟨_, op_neD hr.le64, fun al H O x y d e Q R rel rx ry h hq => by
  obtain ⟨h1, h2, h3⟩ := h
  obtain ⟨p, e1, l1⟩ := D.ok_py 20 _ (by omega) h1
  obtain ⟨q, e2, l2⟩ := D.ok_py 20 _ (by omega) h2
  have z1 := snN_dp rel 6 _ _ _ rx e1
  have z2 := snN_dp rel 6 _ _ _ ry e2
  refine ⟨p, q, z1.1, z2.1, shaped_ok h1 e1 z1.2, shaped_ok h2 e2 z2.2, ?_⟩
  rw [D.py_eqv _ _ _ _ e1 e2]
  exact hq _ _ _ _ _ (Stp.refl _ _) rel (.bl _) h3⟩
end
theorem strs_id (l : List Str) : D.strs (l.map D.str) = some l := by have := strs_map (fun z => z) l; simpa using this
theorem bools_id (l : List Bool) : D.bools (l.map D.bl) = some l := by have := bools_map (fun z => z) l; simpa using this
theorem ints_id (l : List Int) : D.ints (l.map D.int) = some l := by have := ints_map (fun z => z) l; simpa using this
theorem snN_own {n : Nat} {O : Om} {k : Nat} {ds : List D} (h : O[k]? = some (.lst ds)) : snN (n + 1) O (.own k) = .lst (ds.map (snN n O)) := by simp only [snN, h]
mutual
theorem snN_ok {O : Om} : ∀ (n m : Nat) (d : D), D.ok m d = true → snN n O d = d
  | 0, _, _, _ => rfl
  | n + 1, _, .non, _ => rfl
  | n + 1, _, .bl _, _ => rfl
  | n + 1, _, .int _, _ => rfl
  | n + 1, _, .str _, _ => rfl
  | n + 1, _, .adr _, _ => rfl
  | n + 1, 0, .own _, h => nomatch h
  | n + 1, m + 1, .own _, h => nomatch h
  | n + 1, 0, .tup _, h => nomatch h
  | n + 1, 0, .lst _, h => nomatch h
  | n + 1, m + 1, .tup ds, h => congrArg D.tup (snNs_ok n m ds h)
  | n + 1, m + 1, .lst ds, h => congrArg D.lst (snNs_ok n m ds h)
theorem snNs_ok {O : Om} : ∀ (n m : Nat) (ds : List D), D.oks m ds = true → ds.map (snN n O) = ds
  | _, _, [], _ => rfl
  | n, m, d :: ds, h => by
    have h' : (D.ok m d && D.oks m ds) = true := h
    rw [Bool.and_eq_true] at h'
    rw [List.map_cons, snN_ok n m d h'.1, snNs_ok n m ds h'.2]
end
end Px

namespace Px
open PySem PySem.Spec PyProof.Rows L2
/-! ### l.count(True), l.index(True), bools -/
def eqB (v : Value) : Bool := match v with
  | .bool b => b == true
  | _ => false
theorem vals_bools : ∀ {bs : List Bool} {us : List Value}, Vals (bs.map V.bl) us → us = bs.map Value.bool
  | [], _, h => by cases h; rfl
  | b :: bs, _, h => by
    cases h with
    | cons h1 h2 =>
      rw [vals_bools h2]
      rw [show _ = Value.bool b from h1]
      rfl
def rCntB (K : PySem.W.Frag) : V → List V → Hp → VK → Prop := fun x xs H Q => ∃ (p : Addr) (bs : List Bool), x = .ref p ∧ xs = [.bl true] ∧ SqL K H p (bs.map V.bl) ∧ Q (.int (bs.count true : Nat)) H
section
variable {X : Cx}
theorem mt_countB : MtR X "list.count" (rCntB X.K) := by
  intro pins s σ H x xs v us Q I rx rxs h
  obtain ⟨p, bs, rfl, rfl, hs, q⟩ := h
  cases rx
  obtain ⟨u, rfl, ru⟩ := rxs.one
  obtain rfl : u = Value.bool true := ru
  obtain ⟨its, rv, ⟨⟨cls, dd, data, sl⟩, n, ho, hc, hdn, hd⟩, hlen⟩ := I.list hs
  simp only at hc hd
  subst hc hd
  have hi := vals_bools rv
  subst hi
  refine call_meets PySem.F.slot_list_count ⟨_, ho, rfl⟩ PySem.F.entry_list_count (PySem.F.args_list_count_2 _ _)
    (SeqAt.list_countAt p (bs.map Value.bool).toArray n dd sl (.bool true) eqB) ⟨ho, fun y hy => ?_, ?_⟩
  · obtain ⟨b, _, rfl⟩ := List.mem_map.mp (show y ∈ bs.map Value.bool by simpa using hy)
    exact SeqAt.EqAt.bool_bool b true
  have ec : (bs.map Value.bool).toArray.toList.countP eqB = bs.count true := by
    rw [List.toList_toArray, List.countP_map]
    rfl
  refine ⟨.int (bs.count true : Nat), H, I.tok _, ⟨s.toks, ?_⟩, q⟩
  show Value.int (((bs.map Value.bool).toArray.toList.countP eqB : Nat) : Int) s.toks = Value.int ((bs.count true : Nat) : Int) s.toks
  rw [ec]
end
def dCountB (d : D) (ds : List D) (O : Om) (Q : QX) : Prop := match ds with
  | [.bl b] => b = true ∧ optK (lstD O d) fun es => optK (D.bools es) fun bs => Q (.int (bs.count true : Nat)) O
  | _ => False
theorem m_countB {X : Cx} : MO X "list.count" dCountB := ⟨_, mt_countB, fun al H O x d xs ds Q R rel rx rxs h hq => by
  match ds, h with
  | [.bl b], h =>
    obtain ⟨rfl, h⟩ := h
    obtain ⟨es, e1, h⟩ := optK.ex h
    obtain ⟨bs, e2, h⟩ := optK.ex h
    obtain ⟨v, rfl, rv⟩ := rxs.one
    cases rv
    obtain ⟨a, ys, rfl, hs, hr, _⟩ := lstD_rp rel rx e1
    obtain rfl := RpA.boolsI hr e2
    exact ⟨a, bs, rfl, rfl, hs, hq _ _ _ _ _ (Stp.refl _ _) rel (.int _) h⟩⟩
def dIndexB (d : D) (ds : List D) (O : Om) (Q : QX) : Prop := match ds with
  | [.bl b] => b = true ∧ optK (lstD O d) fun es => optK (D.bools es) fun bs => optK (bs.findIdx? id) fun j => Q (.int (j : Nat)) O
  | _ => False
theorem m_indexB {X : Cx} : MO X "list.index" dIndexB := ⟨_, mt_index, fun al H O x d xs ds Q R rel rx rxs h hq => by
  match ds, h with
  | [.bl b], h =>
    obtain ⟨rfl, h⟩ := h
    obtain ⟨es, e1, h⟩ := optK.ex h
    obtain ⟨bs, e2, h⟩ := optK.ex h
    obtain ⟨j, e3, h⟩ := optK.ex h
    obtain ⟨v, rfl, rv⟩ := rxs.one
    cases rv
    obtain ⟨a, ys, rfl, hs, hr, _⟩ := lstD_rp rel rx e1
    obtain rfl := RpA.boolsI hr e2
    obtain ⟨hj, hj1, hj2⟩ := List.findIdx?_eq_some_iff_getElem.mp e3
    refine ⟨a, _, _, j, .bl true, rfl, rfl, hs, rfl, ?_, ?_, rfl, fun m z' hm' hz => ?_, hq _ _ _ _ _ (Stp.refl _ _) rel (.int _) h⟩
    · rw [List.all_map]; exact List.all_eq_true.mpr fun _ _ => rfl
    · rw [List.getElem?_map, List.getElem?_eq_getElem hj, show bs[j] = true from hj1]; rfl
    · rw [List.getElem?_map] at hz
      obtain ⟨z, hz1, rfl⟩ := Option.map_eq_some_iff.mp hz
      obtain ⟨hz2, hz3⟩ := List.getElem?_eq_some_iff.mp hz1
      have := hj2 m hm'
      rw [show bs[m] = z from hz3] at this
      have hz4 : z = false := by simpa using this
      subst hz4
      rfl⟩
end Px

namespace Px
open PySem PySem.Spec PyProof.Rows L2
/-! ### defs that may be called while an exception is handled (they raise nothing) -/
abbrev RoomQ := L2H.RoomH
theorem _root_.L2H.RoomH.u {k : Nat} {A : Around} (r : L2H.RoomH k A) : Un0 A := ⟨by have := r.un; omega⟩
structure FnQ (pr : Program) (wl : World) (K : PySem.W.Frag) (g : Str → Option Value) (h0 : Heap) (C : CXT) (k : Nat) (fa : Addr) (fdt : FuncData) (par : List Str) (S : Sp) : Prop where
  ln : ∀ xs G R F, S xs G R F → xs.length = par.length
  go : ∀ (B : Around) (ou : List Env) (t : Shared) (G : Hp) (as : Args) (ws : List Value) (xs : List V) (R : VK) (F : XK), RoomQ k B → Env0 pr wl K g h0 B ou t G → BindsTo t fdt as (par.zip ws) → Vals xs ws → S xs G R F →
    codeAny (model pr wl) B (.call (.ref fa) as) (CR C ou pr wl G t R F) t
def cxQ (C : CXT) (pr : Program) (wl : World) (K : PySem.W.Frag) (g : Str → Option Value) (h0 : Heap) (M : List Str) (q : Str) (sc : Scope) (fa : Addr) (cv : Value) (B : Around) (ou : List Env) (t : Shared) (G : Hp) (F : XK) : Cx :=
  { cxOf C pr wl K g h0 M q sc fa cv B ou t G F with calm := false }
section
variable {C : CXT} {pr : Program} {wl : World} {K : PySem.W.Frag} {g : Str → Option Value} {h0 : Heap} {M par : List Str} {q : Str} {sc : Scope} {fa : Addr} {cv : Value} {B : Around} {ou : List Env} {t t1 : Shared} {G : Hp} {F : XK} {ws : List Value} {xs : List V}
theorem start_at {i : Nat} {v : V} (h : (L2.start M xs)[i]? = some (some v)) : xs[i]? = some v := by
  have hi : i < xs.length := Decidable.byContradiction fun hn => by
    unfold L2.start at h
    rw [List.getElem?_append_right (by rw [List.length_map]; omega), List.getElem?_replicate] at h
    split at h <;> cases h
  unfold L2.start at h
  rw [List.getElem?_append_left (by rw [List.length_map]; exact hi), List.getElem?_map] at h
  obtain ⟨w, e1, e2⟩ := Option.map_eq_some_iff.mp h
  rw [e1, ← Option.some.inj e2]
theorem inv_startQ (S : FnScope M par sc) (e0 : Env0 pr wl K g h0 B ou t G) (hl : xs.length = par.length) (r : Vals xs ws)
    (y : InCallC t t.heap.objs.size (bindL (envOfC q sc t.heap.objs.size fa cv).kindOf (par.zip ws) fun _ => none) (cellsFrom (t.heap.objs.size + 1) sc.names []) (bindC (envOfC q sc t.heap.objs.size fa cv).kindOf (par.zip ws) fun _ => none) t1) :
    Inv (cxQ C pr wl K g h0 M q sc fa cv B ou t G F) [] (L2.start M xs) G t1 := by
  have hpl : par.length ≤ M.length := by rw [← S.pre]; exact List.length_take_le' _ _
  have ndP : par.Nodup := by rw [← S.pre]; exact S.nd.sublist (List.take_sublist _ _)
  obtain ⟨h1, tk, rfl, hk⟩ := y.done
  have none_ex : ∀ b : Addr, b ∉ (cxQ C pr wl K g h0 M q sc fa cv B ou t G F).ex := fun b z => nomatch (show b ∈ ([] : List Addr) from z)
  have at_par : ∀ {i : Nat} {z : Str} {v : V}, M[i]? = some z → xs[i]? = some v → par[i]? = some z := fun {i z v} h2 h3 => by
    rw [← S.pre, List.getElem?_take_of_lt (by rw [← hl]; exact (List.getElem?_eq_some_iff.mp h3).1)]
    exact h2
  constructor
  · constructor
    · exact e0.mod
    · exact S.kind
    · rfl
    · rfl
    · exact Nat.le_refl _
    · exact fun a b c h2 h3 => name_of_addr y.apart (PySem.mem_of_lookup h2) (PySem.mem_of_lookup h3)
    · intro a ha
      rcases (show sc.names.lookup a = some .cell ∨ sc.names.lookup a = some .free from ha) with z | z
      · exact cell_has z
      · exact absurd rfl (S.nofree _ (PySem.mem_of_lookup z))
    · exact fun a c _ h2 => Nat.le_of_lt (y.above a c (PySem.mem_of_lookup h2))
    · exact fun z => Bool.noConfusion (show false = true from z)
    · exact Around.frames_deeper e0.frames
    · exact .inr ⟨rfl, rfl⟩
    · exact fun b z => absurd z (none_ex b)
    · exact e0.bs
    · exact e0.bsz
    · exact fun b _ _ => none_ex b
    · exact fun b z => absurd z (none_ex b)
    · exact e0.funs
    · exact e0.frf
  · rfl
  · exact e0.bare
  · exact Un.kept hk
  · refine ⟨_, y.toInCall.ns, fun i z v h2 h3 h4 => ?_⟩
    have ha := start_at h3
    obtain ⟨u, hu, rv⟩ := r.get ha
    have hp := at_par h2 ha
    refine ⟨u, rv, ?_⟩
    rcases S.par z (List.mem_of_getElem? hp) with k | k
    · exact .inl ⟨k, bindL_get ndP hp hu k⟩
    · obtain ⟨c, e⟩ := cell_has (n := t.heap.objs.size + 1) k
      have e5 := y.cell z c e
      rw [bindC_get ndP hp hu (by show sc.names.lookup z ≠ _; rw [k]; exact fun z => nomatch z)] at e5
      exact .inr ⟨.inl k, c, e, e5⟩
  · exact fun z c h2 => ⟨_, y.cell z c h2⟩
  · exact e0.hok.fresh (Nat.le_refl _)
  · exact fun z c h2 => e0.hok.fresh (Nat.le_of_lt (y.above z c (PySem.mem_of_lookup h2)))
  · exact fun p hp => nomatch (show p ∈ ([] : List (Addr × Obj)) from hp)
  · exact e0.hok.kept hk
  · unfold L2.start
    show _ = M.length
    rw [List.length_append, List.length_map, List.length_replicate]
    omega
end
section
variable {pr : Program} {wl : World} {K : PySem.W.Frag} {g : Str → Option Value} {h0 : Heap} {k : Nat} {fa : Addr} {x qn : Str} {st : Stmt} {fdt : FuncData} {M par : List Str}
theorem fnq_gen {Sp0 : Sp} (F : Fun K x qn st fa fdt) (S : FnScope M par (defScope st)) (len : ∀ xs G R E, Sp0 xs G R E → xs.length = par.length)
    (hb : ∀ (cv : Value) (B : Around) (ou : List Env) (t : Shared) (G : Hp) (xs : List V) (R : VK) (E : XK), RoomQ k (B.deeper (envOfC qn (defScope st) t.heap.objs.size fa cv)) → Sp0 xs G R E →
      ∃ ts, PSs (cxQ (L2.CX pr wl) pr wl K g h0 M qn (defScope st) fa cv B ou t G E) (defBody st) ts ∧ ts { nx := fun _ G' => R .non G', rt := R } (L2.start M xs) G) : FnQ pr wl K g h0 (L2.CX pr wl) (k + 1) fa fdt par Sp0 := by
  obtain ⟨oc, od, kV, doc, pm, an, cv, ct, osl, rfl, lk, hcd⟩ := F.ex
  refine ⟨len, fun B ou t G as ws xs R E hr e0 hbind r hsp => ?_⟩
  have hl := len _ _ _ _ hsp
  have inK : K.In t.heap := e0.mod.kin.keeps fun b o e => (e0.bs b o e).1
  have noLim : t.heap.NoLimit := e0.mod.nolimit.keeps fun b o e => (e0.bs b o e).1
  have kinds : ∀ y ∈ par.zip ws, (defScope st).names.lookup y.1 = some .local ∨ ((defScope st).names.lookup y.1 = some .cell ∧ ((cellsFrom (t.heap.objs.size + 1) (defScope st).names []).lookup y.1).isSome = true) := by
    rintro ⟨z, v⟩ hy
    cases S.par z (List.of_mem_zip hy).1 with
    | inl a => exact .inl a
    | inr a => exact .inr ⟨a, PySem.W.cellsFrom_some _ _ _ (.inl a)⟩
  refine codeAny_call_function hr.depth (inK _ _ lk) rfl S.co S.gen rfl (PySem.W.codeRec_of inK hcd) (hbind _ _ _ _ ?_)
  refine wpAny_newFunctionEnv_cells S.kind kinds fun env he t1 y => ?_
  subst he
  refine ⟨noLim.keeps y.toInCall.keep, codeAny_func ?_⟩
  obtain ⟨ts, hts, hq⟩ := hb cv B ou t G xs R E (hr.deeper _) hsp
  have J : Inv (cxQ (L2.CX pr wl) pr wl K g h0 M qn (defScope st) fa cv B ou t G E) [] (L2.start M xs) G t1 := inv_startQ S e0 hl r y
  refine wpAny_mono (hts.run [] t1 (L2.start M xs) G _ J hq) (fun fl t2 hs => ?_) fun e t2 he => he
  cases fl with
  | ret u =>
    obtain ⟨v, σ', G', J2, rv, q⟩ := hs
    exact ⟨v, G', J2.os, J2.bare, J2.base, J2.hok, rv, q⟩
  | next =>
    obtain ⟨σ', G', J2, q⟩ := hs
    exact ⟨V.non, G', J2.os, J2.bare, J2.base, J2.hok, rfl, q⟩
  | brk =>
    obtain ⟨_, _, _, q⟩ := hs
    exact False.elim q
  | cont =>
    obtain ⟨_, _, _, q⟩ := hs
    exact False.elim q
abbrev FnY (pr : Program) (wl : World) (K : PySem.W.Frag) (g : Str → Option Value) (h0 : Heap) (k : Nat) (fa : Addr) (fdt : FuncData) (par : List Str) (T : SpX) : Prop := FnQ pr wl K g h0 (L2.CX pr wl) k fa fdt par (spX K T)
theorem fny_of {T : SpX} (F : Fun K x qn st fa fdt) (S : FnScope M par (defScope st)) (len : ∀ ds O Q E, T ds O Q E → ds.length = par.length) (t : TSX)
    (hb : ∀ (cv : Value) (B : Around) (ou : List Env) (s : Shared) (G : Hp) (E : XK), RoomQ k (B.deeper (envOfC qn (defScope st) s.heap.objs.size fa cv)) → PSsX (cxQ (L2.CX pr wl) pr wl K g h0 M qn (defScope st) fa cv B ou s G E) (W0 E) (defBody st) t)
    (hp : ∀ ds O Q E, T ds O Q E → OmCl O → t { nx := fun _ O' => Rt O.length Q .non O', rt := Rt O.length Q, ex := fun x _ O' => E x O' } (startG M ds) O) : FnY pr wl K g h0 (k + 1) fa fdt par T := by
  refine fnq_gen F S (fun xs G R E h => ?_) (fun cv B ou s G xs R E hr h => ?_)
  · obtain ⟨al, O, ds, Qx, Ex, rel, r, h, _⟩ := h
    rw [r.length]
    exact len _ _ _ _ h
  · obtain ⟨al, O, ds, Qx, Ex, rel, r, h, hq, he⟩ := h
    obtain ⟨ts, p1, p2⟩ := hb cv B ou s G E hr
    have fin : ∀ al' H' O' v d, Stp al G al' H' → Rel K al' H' O' → Rp K al' H' v d → Rt O.length Qx d O' → R v H' := fun al' H' O' v d s' rel' r' q' => by
      rcases q' with q' | ⟨O1, Z, rfl, hn, hc, hO, q'⟩
      · exact hq al' H' O' v d s' rel' r' q'
      · rw [← hn] at hc
        exact hq (al'.cut O1.length) H' O1 v d (s'.trunc (by rw [hn, rel.len])) (rel'.trunc hO) (r'.trunc _ hc) q'
    refine ⟨ts, p1, p2 al G (L2.start M xs) (startG M ds) O _ _ rel (env_start r) (hp ds O Qx Ex h rel.cl) ⟨?_, ?_, ?_, ?_, ?_⟩⟩
    · exact fun al' H' O' σ' G' s' rel' _ q' => fin al' H' O' .non .non s' rel' .non q'
    · exact fin
    · exact fun _ _ _ _ _ _ _ _ z => z.elim
    · exact fun _ _ _ _ _ _ _ _ z => z.elim
    · exact fun al' H' O' σ' G' x cls dd s' rel' _ r' q' => he al' H' O' x cls dd s' rel' r' q'
end
structure ClY (pr : Program) (wl : World) (K : PySem.W.Frag) (g : Str → Option Value) (h0 : Heap) (x : Str) (k : Nat) (par : List Str) (T : SpX) : Prop where
  ex : ∃ f fd, g x = some (.ref f) ∧ PySem.W.keepIn K (.ref f) = true ∧ Binds K fd par [] ∧ FnY pr wl K g h0 k f fd par T
theorem cly_mk {pr : Program} {wl : World} {K : PySem.W.Frag} {g : Str → Option Value} {h0 : Heap} {x : Str} {k : Nat} {par : List Str} {T : SpX} {st : Stmt} {f : Addr} {fd : FuncData} (hm : g x = some (.ref f)) (F : Fun K x x st f fd) (b : Binds K fd par []) (h : FnY pr wl K g h0 k f fd par T) : ClY pr wl K g h0 x k par T := ⟨⟨f, fd, hm, F.kp, b, h⟩⟩
section
variable {X : Cx} {W : WX} {k : Nat} {par : List Str} {T : SpX} {x : Str} {p pos : Pos} {e : Expr} {es : List Expr}
theorem run_fnQ {C : CXT} {Sp0 : Sp} {fa : Addr} {fdt : FuncData} {pins : List (Addr × Obj)} {σ : L2.St} {G : Hp} {t : Shared} {R : VK} {E : XK} {ws : List Value} {xs : List V} (F : FnQ X.prog X.w X.K X.mg X.base C k fa fdt par Sp0) (hr : RoomQ k X.A) (hb : Binds X.K fdt par []) (hx : PassesAt C X σ E)
    (J : Inv X pins σ G t) (r : Vals xs ws) (h : Sp0 xs G R E) : wpAny (model X.prog X.w) X.A (call (.ref fa) ws) (EP X pins σ R) X.xe t := by
  have b := hb t ws J.kIn (by rw [List.append_nil, ← r.length]; exact F.ln _ _ _ _ h)
  rw [List.append_nil] at b
  refine wpAny_call (codeAny_mono (F.go X.A X.stack t G ⟨ws, []⟩ ws xs R E hr J.env0 b r h) fun res t2 hq => ?_)
  match res, hq with
  | .error e, hq => exact hx pins G t e t2 J hq
  | .ok (.ret u), hq => exact J.after hq
  | .ok .next, hq => exact False.elim hq
  | .ok .brk, hq => exact False.elim hq
  | .ok .cont, hq => exact False.elim hq
theorem px_clY {t : TAX} (C : ClY X.prog X.w X.K X.mg X.base x k par T) (hr : RoomQ k X.A) (tk : Takes X W) (ha : PAX X W (e :: es) t) (hg : Gl X x := by rfl) (hdb : (x == ("__debug__" : Str)) = false := by decide)
    (hs : starEach (e :: es) X.env = (false, eval e X.env) :: starEach es X.env := by rfl) (hpl : (backTo pos (starEach es X.env)).any (·.1) = false := by rfl) :
    PX X W (.Call (.Name x p) (e :: es) [] pos) (xFn T t) := by
  obtain ⟨fa, fdt, hm, hk, hb, F⟩ := C.ex
  obtain ⟨ta, p1, q1⟩ := ha
  refine ⟨tCallS (spX X.K T) (WE W) ta, ⟨fun pins s σ H R J h => ?_⟩, rd_fn q1⟩
  refine wpAny_Call_Name_kw (ld_glob J hg hm ?_ hdb)
  exact PySem.W.callWith_K (h₀ := X.base) J.ok.mod.kin hk (thn (p1.run pos pins s σ H _ J h) fun us s1 ⟨vs, H1, J1, r, q⟩ => ⟨J1.kIn, run_fnQ F hr hb (passAt tk σ) J1 r q⟩) hs hpl
end
theorem _root_.L2.Room.q {k j : Nat} {A : Around} (r : Room j A) (v : Option Value) (h : decide (k ≤ j) = true := by rfl) : RoomQ k (A.mark v) :=
  have h' : k ≤ j := of_decide_eq_true h
  ⟨by have := r.dp; show A.depth + 3 * k + 5 < _; omega, by have := r.un; show A.units + 16 * k + 200 < _; omega⟩
end Px

namespace Px
open PySem PySem.Spec PyProof.Rows L2
theorem vals_take : ∀ {vs : List V} {us : List Value} (n : Nat), Vals vs us → Vals (vs.take n) (us.take n)
  | _, _, 0, _ => .nil
  | _, _, _ + 1, .nil => .nil
  | _, _, n + 1, .cons h r => .cons h (vals_take n r)
/-! ### an own class made by one keyword, the parameters ahead of it by their defaults -/
structure MkN (P : Program) (w : World) (K : PySem.W.Frag) (mg : Str → Option Value) (base : Heap) (x : Str) (j : Nat) (k : Nat) (ps : List Str) (nm : Str) (pre : List D) (T : SpX) : Prop where
  ex : ∃ f fd g pv, mg x = some (.ref (clA K j)) ∧ Mk K (clA K j) f ∧ KBn K fd ps 1 [nm] g (fun vs zs => vs ++ (pv ++ zs)) ∧ (∀ al H, RpA K al H pv pre) ∧ FnX P w K mg base k f fd ps T
def xMakeN (j : Nat) (T : SpX) (pre : List D) (t : TAX) : TX := fun G O Q E => t G O (fun ds O1 => T (.own O1.length :: (pre ++ ds)) (O1 ++ [.ins j []]) (fun d O2 => d = .non ∧ Q (.own O1.length) O2) E) E
def tMakeNW (C : Addr) (sp : Sp) (pv : List V) (E : L2.St → XK) (t : TA) : TE := fun σ H Q => t σ H fun zs H1 => zs.length = 1 ∧ ∀ x dx, H1 x = none → H1 dx = none → dx ≠ x →
  sp (.ref x :: (pv ++ zs)) (upd (upd H1 dx (.own x)) x (.ins C dx [])) (fun v H2 => v = .non ∧ Q (.ref x) H2) (E σ)
section
variable {X : Cx} {CX : CXT} {k : Nat} {f C : Addr} {fd : FuncData} {ps : List Str} {sp : Sp} {pv : List V} {E : XK} {E' : L2.St → XK} {x nm : Str} {p pos kpos : Pos} {e : Expr} {te : TE} {t : TA} {g : List Value → List Value → List Value}
theorem run_oneK {pins : List (Addr × Obj)} {σ : L2.St} {H : Hp} {s : Shared} {Q : VK} {ws : List Value} {zs : List V} (M : Mk X.K C f) (F : FnOk X.prog X.w X.K X.mg X.base CX k f fd ps sp) (hr : Room (k + 1) X.A)
    (hb : KBn X.K fd ps 1 [nm] g (fun vs zs => vs ++ (pv ++ zs))) (hx : PassesAt CX X σ E) (I : Inv X pins σ H s) (rz : Vals zs ws) (lz : ws.length = 1)
    (h : ∀ x dx, H x = none → H dx = none → dx ≠ x → sp (.ref x :: (pv ++ zs)) (upd (upd H dx (.own x)) x (.ins C dx [])) (fun v H2 => v = .non ∧ Q (.ref x) H2) E) :
    wpAny (model X.prog X.w) X.A (call (.ref C) [] ([nm].zip ws)) (EP X pins σ Q) X.xe s := by
  have free := I.hok.fresh (Nat.le_refl s.heap.objs.size)
  have free1 := I.hok.fresh (Nat.le_succ s.heap.objs.size)
  have go := h _ _ free1 free (Nat.ne_of_lt (Nat.lt_succ_self _))
  have J := Inv.made (C := C) I
  have rv : Vals [V.ref (s.heap.objs.size + 1)] [Value.ref (s.heap.objs.size + 1)] := .cons rfl .nil
  have ra := hb.rel rv rz
  have room := hr.make C [] ([nm].zip ws)
  have env := J.env0.make C [] ([nm].zip ws)
  have bind := hb.to _ [Value.ref (s.heap.objs.size + 1)] ws J.kIn rfl lz
  refine wpAny_call (make_map (f := f) I.kIn M.makes M.init (beq_iff_eq.mp M.fn) (codeAny_mono (F.run _ X.stack _ _ ⟨[Value.ref (s.heap.objs.size + 1)], [nm].zip ws⟩ _ _ _ E room env bind ra go) fun r s' out => ?_))
  cases r with
  | error e => exact hx pins _ _ e s' J out
  | ok fl =>
    cases fl with
    | ret u =>
      obtain ⟨v, H', J2, rv2, rfl, q3⟩ := J.after out
      exact ⟨rv2, ⟨V.ref (s.heap.objs.size + 1), H', J2, rfl, q3⟩⟩
    | next => exact out.elim
    | brk => exact out.elim
    | cont => exact out.elim
theorem pe_oneK (M : Mk X.K C f) (F : FnOk X.prog X.w X.K X.mg X.base CX k f fd ps sp) (hr : Room (k + 1) X.A) (hg : Gl X x) (hm : X.mg x = some (.ref C)) (hb : KBn X.K fd ps 1 [nm] g (fun vs zs => vs ++ (pv ++ zs)))
    (hx : ∀ σ, PassesAt CX X σ (E' σ)) (ha : PE X e te) (hdb : (x == ("__debug__" : Str)) = false := by decide) :
    PE X (.Call (.Name x p) [] [⟨some nm, e, kpos⟩] pos) (tMakeNW C sp pv E' (tCons te tNil)) := by
  have hkw : PK X [⟨some nm, e, kpos⟩] (tCons te tNil) := pk_cons ha pk_nil
  refine ⟨fun pins s σ H Q I h => ?_⟩
  refine wpAny_Call_Name_kw (ld_glob I hg hm ?_ hdb)
  refine PySem.W.callWith_KW0 (h₀ := X.base) I.ok.mod.kin M.kp (by rfl) ?_ (by rfl)
  refine thn (hkw.run pos pins s σ H _ I h) fun ws s2 ⟨zs, H2, I2, rz, l2, q2⟩ => ⟨I2.kIn, ?_⟩
  exact run_oneK M F hr hb (hx σ) I2 rz (rz.length.symm.trans l2) q2
end
section
variable {K : PySem.W.Frag} {W : WX}
theorem rd_oneK {j : Nat} {T : SpX} {pv : List V} {pre : List D} (hp : ∀ al H, RpA K al H pv pre) {t : TA} {xt : TAX} (ht : RdA K W 1 t xt) : RdE K W (tMakeNW (clA K j) (spX K T) pv (WE W) t) (xMakeN j T pre xt) := by
  intro al H σ G O Q E R rel env q hq he
  refine ht al H σ G O _ E _ rel env q (fun al1 H1 O1 xs es s1 rel1 r1 hl q1 => ⟨r1.length.trans hl, ?_⟩) he
  intro x dx nx ndx ne
  have s2 := stp_own2 (u := .own x) (w := .ins (clA K j) dx []) rel1.live nx ndx ne
  have rel2 := rel1.own2 (u := .own x) (w := .ins (clA K j) dx []) (c := .ins j []) nx ndx ne ⟨[], upd_same, by rw [upd_ne ne, upd_same], rfl, .nil⟩
  have rv : Rp K (al1.add (some (x, some dx))) (upd (upd H1 dx (.own x)) x (.ins (clA K j) dx [])) (.ref x) (.own O1.length) := by rw [← rel1.len]; exact own_new
  refine ⟨_, O1 ++ [.ins j []], .own O1.length :: (pre ++ es), _, E, rel2, .cons rv ((hp _ _).append (r1.mono s2)), q1, fun al3 H3 O3 v d s3 rel3 r3 q3 => ?_, fun _ _ _ _ _ _ s' => he _ _ _ _ _ _ ((s1.trans s2).trans s')⟩
  obtain ⟨rfl, q3⟩ := q3
  cases r3
  exact ⟨rfl, hq _ _ _ _ _ ((s1.trans s2).trans s3) rel3 (rv.mono s3) q3⟩
end
theorem px_makeN {X : Cx} {W : WX} {k l j : Nat} {ps : List Str} {T : SpX} {pre : List D} {x nm : Str} {p pos kpos : Pos} {e : Expr} {t : TX} (C : MkN X.prog X.w X.K X.mg X.base x j k ps nm pre T) (hr : Room l X.A) (tk : Takes X W) (ha : PX X W e t) (hg : Gl X x := by rfl) (hk : decide (k + 1 ≤ l) = true := by rfl)
    (hdb : (x == ("__debug__" : Str)) = false := by decide) : PX X W (.Call (.Name x p) [] [⟨some nm, e, kpos⟩] pos) (xMakeN j T pre (xCons t xNil)) :=
  let ⟨_, _, _, _, hm, hM, hb, hd, F⟩ := C.ex; let ⟨_, p2, q2⟩ := ha
  ⟨_, pe_oneK hM F (hr.mono (of_decide_eq_true hk)) hg hm hb (fun σ => passAt tk σ) p2 hdb, rd_oneK hd (rd_cons q2 rd_nil)⟩
/-! ### d.update(e), both own dicts -/
section
variable {X : Cx}
def rUpdD : V → List V → Hp → VK → Prop := fun x xs H Q => ∃ (d a : Addr) (acc kvs : List (Key × V)), x = .ref d ∧ xs = [.ref a] ∧ H d = some (.dK acc) ∧ H a = some (.dK kvs) ∧ d ≠ a ∧ acc.length + kvs.length ≤ sizeLine ∧ Q .non (upd H d (.dK (mergeK acc kvs)))
theorem mt_updD : MtR X "dict.update" rUpdD := by
  intro pins s σ H x xs v us Q I rx rxs h
  obtain ⟨d, a, acc, kvs, rfl, rfl, hd, ha, hne, hz, q⟩ := h
  cases rx
  obtain ⟨u, rfl, ru⟩ := rxs.one
  cases ru
  obtain ⟨_, hsd, vs, r1, dd⟩ := dk_of I.hok hd
  obtain ⟨_, hsa, ws, r2, da⟩ := dk_of I.hok ha
  have lv : vs.length = acc.length := r1.length.symm
  have lw : ws.length = kvs.length := r2.length.symm
  refine call_meetsIn PySem.F.slot_dict_update dd.typeIs PySem.F.entry_dict_update (PySem.F.args_dict_update_2 _ _) (meets_dict_update (mixKind X.prog X.w) d a hne hsa) ⟨vs, ws, dd, da, by rw [lv, lw]; exact hz, fun h' e1 e2 hs => ?_⟩
  have lz : (mergeK acc kvs).length ≤ sizeLine := Nat.le_trans (length_mergeK kvs acc) hz
  have he : ∃ o, h'.get? d = some o := let ⟨o, _, _, g, _⟩ := e1; ⟨o, g⟩
  exact ⟨.non, _, d_write I (by rw [hd]; exact True.intro) hs he (dk_new lz hsd (KV.merge r2 r1) e1), rfl, q⟩
end
def dUpdD (d : D) (ds : List D) (O : Om) (Q : QX) : Prop := match d, ds with
  | .own k, [.own j] => optK O[k]? fun c => dKK c fun acc => optK O[j]? fun c2 => dKK c2 fun kvs => k ≠ j ∧ acc.length + kvs.length ≤ 1000000 ∧ Q .non (O.set k (.dK (mergeD acc kvs)))
  | _, _ => False
theorem m_dupdD {X : Cx} : MO X "dict.update" dUpdD := ⟨_, mt_updD, fun al H O x d xs ds Q R rel rx rxs h hq => by
  match d, ds, h with
  | .own k, [.own j], h =>
    obtain ⟨acc, e1, h⟩ := dKK.ex h
    obtain ⟨kvs, e2, hkj, hl, h⟩ := dKK.ex h
    obtain ⟨v, rfl, rv⟩ := rxs.one
    obtain ⟨b, vs, rfl, f2, g3, g4⟩ := rv.ownD rel e2
    obtain ⟨o, f1, q, hv⟩ := rx.ownI rel e1
    match o, q with
    | some (p, none), ⟨ws, g1, g2⟩ =>
      obtain rfl := hv _ rfl
      have s : Stp al H al (upd H p (.dK (mergeK ws vs))) := stp_set rel.nd f1
      have ne : p ≠ b := fun e => fp_other rel.nd f1 f2 (Ne.symm hkj) (a := p) (by simp [fpo]) (by simp [fpo, e])
      refine ⟨p, b, ws, vs, rfl, rfl, g1, g3, ne, by rw [g2.len, g4.len, sizeLine_eq]; omega, ?_⟩
      exact hq _ _ _ _ _ s (rel.set (c := .dK (mergeD acc kvs)) f1 ⟨_, upd_same, (RpK.merge g4 g2).mono0 s.toStp0⟩) .non h⟩
end Px

namespace Px
open PySem PySem.Spec PyProof.Rows L2
/-! ### l.remove(x), texts -/
theorem erase_atS {x : Str} : ∀ {l : List Str} {j : Nat}, l[j]? = some x → (∀ (m : Nat) (z : Str), m < j → l[m]? = some z → z ≠ x) → l.eraseIdx j = l.erase x
  | [], j, h, _ => by simp at h
  | y :: l, 0, h, _ => by
    have e : y = x := by simpa using h
    subst e
    simp
  | y :: l, j + 1, h, hn => by
    have e : y ≠ x := hn 0 y (Nat.succ_pos _) rfl
    have ih := erase_atS (l := l) (j := j) (by simpa using h) fun m z hm hz => hn (m + 1) z (by omega) (by simpa using hz)
    rw [List.eraseIdx_cons_succ, ih, List.erase_cons_tail (by simpa using e)]
theorem strs_inv : ∀ {es : List D} {l : List Str}, D.strs es = some l → es = l.map .str
  | [], l, h => by cases h; rfl
  | .str i :: es, l, h => by
    simp only [D.strs, Option.map_eq_some_iff] at h
    obtain ⟨ms, h1, rfl⟩ := h
    rw [List.map_cons, ← strs_inv h1]
def rRemS : V → List V → Hp → VK → Prop := fun x xs G R => ∃ (p : Addr) (l : List Str) (y : Str) (j : Nat), x = .ref p ∧ xs = [.str y] ∧ G p = some (.lst (l.map V.str)) ∧ l[j]? = some y ∧ (∀ (m : Nat) (z : Str), m < j → l[m]? = some z → z ≠ y) ∧ R .non (upd G p (.lst ((l.eraseIdx j).map V.str)))
theorem er_map {α β : Type} (f : α → β) : ∀ (l : List α) (j : Nat), (l.map f).eraseIdx j = (l.eraseIdx j).map f
  | [], _ => rfl
  | _ :: _, 0 => rfl
  | a :: r, j + 1 => by
    show f a :: (r.map f).eraseIdx j = f a :: (r.eraseIdx j).map f
    rw [er_map f r j]
section
variable {X : Cx}
theorem mt_removeS : MtM X "list.remove" rRemS := by
  intro pins t σ G x xs v us R I rx rxs h
  obtain ⟨p, l, y, j, rfl, rfl, hG, hj, hno, q⟩ := h
  cases rx
  obtain ⟨u, rfl, ru⟩ := rxs.one
  obtain ⟨tk, rfl⟩ := ru
  obtain ⟨z, its, n, r, hl, e⟩ := I.lstM hG
  have hi := Vals.strs r
  rw [List.length_map] at hl z
  have jn : j < l.length := (List.getElem?_eq_some_iff.mp hj).1
  have jl : j < its.toArray.size := by rw [List.size_toArray]; omega
  have at_ : ∀ (m : Nat) (hm : m < its.toArray.size), ∃ w tm, l[m]? = some w ∧ its.toArray[m] = Value.str w tm := fun m hm => by
    have hm' : m < its.length := by simpa using hm
    have hml : m < l.length := by omega
    have := Vals.get r (i := m) (x := V.str l[m]) (by rw [List.getElem?_map, List.getElem?_eq_getElem hml]; rfl)
    obtain ⟨w, hw, rw'⟩ := this
    obtain ⟨tm, rfl⟩ := rw'
    refine ⟨l[m], tm, List.getElem?_eq_getElem hml, ?_⟩
    obtain ⟨_, h2⟩ := List.getElem?_eq_some_iff.mp hw
    simpa using h2
  refine call_meets PySem.F.slot_list_remove ⟨_, e, rfl⟩ PySem.F.entry_list_remove (PySem.F.args_list_remove_2 _ _)
    (MeetsSeq.list_remove p its.toArray n (.str y tk) (isStrOf y) (fun w hw => eq_isStrOf y tk hi w (by simpa using hw)) j jl ?_ ?_ (by rw [List.size_toArray]; omega)) ⟨e, ?_⟩
  · obtain ⟨w, tm, h1, h2⟩ := at_ j jl
    rw [h2]
    rw [hj] at h1
    cases h1
    show (y == y) = true
    simp
  · intro m hm hmj
    obtain ⟨w, tm, h1, h2⟩ := at_ m hm
    rw [h2]
    have := hno m w hmj h1
    show (w == y) = false
    simpa using this
  · have rr := r.eraseIdx j
    rw [er_map] at rr
    refine ⟨.non, _, I.lset (its' := its.eraseIdx j) (t' := t.toks) hG e ?_ rr ?_, rfl, q⟩
    · show its.toArray.eraseIdxIfInBounds j = (its.eraseIdx j).toArray
      rw [List.eraseIdxIfInBounds_toArray]
    · have := List.length_eraseIdx_le l j
      rw [List.length_map]
      omega
def dRemS (d : D) (ds : List D) (O : Om) (Q : QX) : Prop := match d, ds with
  | .own k, [.str x] => optK O[k]? fun c => lstK c fun es => optK (D.strs es) fun l => x ∈ l ∧ Q .non (O.set k (.lst ((l.erase x).map .str)))
  | _, _ => False
theorem m_removeS : MO X "list.remove" dRemS := ⟨_, mt_removeS, fun al H O x d xs ds Q R rel rx rxs h hq => by
  match d, ds, h with
  | .own k, [.str y], h =>
    obtain ⟨es, e1, h⟩ := lstK.ex h
    obtain ⟨l, e2, hm, h⟩ := optK.ex h
    obtain ⟨v, rfl, rv⟩ := rxs.one
    cases rv
    obtain ⟨a, ys, rfl, e4, e5, e6, e7⟩ := rx.ownL rel e1
    obtain ⟨rfl, hok⟩ := RpA.strsI e7 e2
    obtain ⟨j, j1, j2, j3⟩ := first_at hm
    have s : Stp al H al (upd H a (.lst ((l.eraseIdx j).map V.str))) := stp_set rel.nd e4
    rw [← erase_atS j2 j3] at h
    have e8 := e7.eraseIdx j
    refine ⟨a, l, y, j, rfl, rfl, e5, j2, j3, hq _ _ _ _ _ s (rel.set (c := .lst ((l.eraseIdx j).map .str)) e4 ⟨_, upd_same, ?_, ?_⟩) .non h⟩
    · have := List.length_eraseIdx_le l j
      rw [List.length_map] at e6 ⊢
      omega
    · rw [er_map] at e8
      have e9 := strs_inv e2
      subst e9
      rw [er_map] at e8
      exact e8.mono s⟩
end
end Px

namespace Px
open PySem PySem.Spec PyProof.Rows L2
/-! ### x.upper(), plain signs -/
theorem up_small : ∀ c < 128, ((Unicode.upperOf c).all fun u => decide (u < 0x110000)) = true := by decide +kernel
theorem up_ok {x : Str} (h : ∀ c ∈ x.cps.toList, c < 128) (hl : x.length ≤ 1000) : SOk (Txt.upper x) := by
  refine ⟨by have := PyProof.Rows.len_upper x; rw [sizeLine_eq]; omega, ?_⟩
  unfold PyData.strOk
  rw [Array.all_eq_true']
  intro u hu
  have hu : u ∈ (x.cps.mapIdx fun i c => (Unicode.upperOf c).toArray).flatten := hu
  obtain ⟨a, ha, hu⟩ := Array.mem_flatten.mp hu
  obtain ⟨i, hi, rfl⟩ := Array.mem_mapIdx.mp ha
  have h1 := List.all_eq_true.mp (up_small x.cps[i] (h _ (by simp))) u (by simpa using hu)
  exact h1
def dUpper (d : D) (ds : List D) (O : Om) (Q : QX) : Prop := match d, ds with
  | .str x, [] => x.length ≤ 1000 ∧ (∀ c ∈ x.cps.toList, c < 128) ∧ ∀ r, SOk r → r.length ≤ 3 * x.length → Q (.str r) O
  | _, _ => False
theorem m_upper {X : Cx} : MO X "str.upper" dUpper := ⟨_, mt_upper, fun al H O x d xs ds Q R rel rx rxs h hq => by
  match d, ds, h with
  | .str y, [], h =>
    obtain ⟨h1, h2, h3⟩ := h
    cases rx
    cases rxs
    have z := up_ok h2 h1
    exact ⟨y, rfl, rfl, by omega, hq _ _ _ _ _ (Stp.refl _ _) rel (.str _ z) (h3 _ z (PyProof.Rows.len_upper y))⟩⟩
end Px

namespace Px
open PySem PySem.Spec PyProof.Rows L2
/-! ### dicts whose keys are tuples of texts and ints -/
def keyTs : List D → Option (List Key)
  | [] => some []
  | d :: ds => match keyD d, keyTs ds with
    | some k, some ks => some (k :: ks)
    | _, _ => none
def keyT : D → Option (List Key)
  | .tup ds => keyTs ds
  | _ => none
def dTT (c : Cell) (Q : List (List Key × D) → Prop) : Prop := match c with
  | .dT kvs => Q kvs
  | _ => False
theorem dTT.ex {o : Option Cell} {Q : List (List Key × D) → Prop} (h : optK o fun c => dTT c Q) : ∃ kvs, o = some (.dT kvs) ∧ Q kvs := by
  obtain ⟨c, e, h⟩ := h.ex
  cases c with
  | dT ds => exact ⟨ds, e, h⟩
  | _ => exact (show False from h).elim
section
variable {K : PySem.W.Frag} {al : AL} {H : Hp} {O : Om}
theorem keyTs_rp : ∀ {ds : List D} {vs : List V} {ks : List Key}, RpA K al H vs ds → keyTs ds = some ks → vs = ks.map kV
  | [], vs, ks, r, h => by cases h; cases r; rfl
  | d :: ds, vs, ks, r, h => by
    cases r with
    | cons r1 r2 =>
      simp only [keyTs] at h
      split at h
      · rename_i k ks' e1 e2
        cases h
        rw [key_rp r1 e1, keyTs_rp r2 e2]; rfl
      · cases h
theorem keyT_rp {v : V} {d : D} {ks : List Key} (r : Rp K al H v d) (h : keyT d = some ks) : ∃ b, v = .ref b ∧ H b = some (.tup (ks.map kV)) := by
  cases d with
  | tup ds =>
    obtain ⟨a, xs, rfl, _, e, ra, _⟩ := r.tupX
    rw [keyTs_rp ra h] at e
    exact ⟨a, rfl, e⟩
  | _ => cases h
theorem Rp.ownT {v : V} {k : Nat} {ds : List (List Key × D)} (rel : Rel K al H O) (r : Rp K al H v (.own k)) (hc : O[k]? = some (.dT ds)) : ∃ a xs, v = .ref a ∧ al.l[k]? = some (some (a, none)) ∧ H a = some (.dT xs) ∧ RpK K al H xs ds := by
  obtain ⟨o, e, q, hv⟩ := r.ownI rel hc
  match o, q with
  | some (a, none), q =>
    obtain ⟨xs, h1, h2⟩ := q
    exact ⟨a, xs, hv _ rfl, e, h1, h2⟩
end
theorem isTy_t {O : Om} {k : Nat} {ds : List (List Key × D)} (h : O[k]? = some (.dT ds)) : isTy "dict" O (.own k) := by
  show (match O[k]? with | some (.lst ds) => ("dict" : String) = "list" | some (.dK ds) => ("dict" : String) = "dict" | some (.dT ds) => ("dict" : String) = "dict" | _ => False)
  rw [h]
def dDGetT (d : D) (ds : List D) (O : Om) (Q : QX) : Prop := match ds with
  | [k] => ownK d fun j => optK O[j]? fun c => dTT c fun kvs => optK (keyT k) fun key => Q ((valD kvs key).getD .non) O
  | [k, z] => ownK d fun j => optK O[j]? fun c => dTT c fun kvs => optK (keyT k) fun key => Q ((valD kvs key).getD z) O
  | _ => False
def dIxT (d e : D) (O : Om) (Q : QX) : Prop := ownK d fun j => optK O[j]? fun c => dTT c fun kvs => optK (keyT e) fun key => optK (valD kvs key) fun x => Q x O
def dInTD (neg : Bool) (d e : D) (O : Om) (Q : QX) : Prop := ownK e fun j => optK O[j]? fun c => dTT c fun kvs => optK (keyT d) fun key => Q (.bl (neg.xor (valD kvs key).isSome)) O
def dSetT (o i d : D) (O : Om) (Q : Om → Prop) : Prop := ownK o fun k => optK O[k]? fun c => dTT c fun kvs => optK (keyT i) fun key => kvs.length ≤ 1000000 ∧ Q (O.set k (.dT (putD kvs key d)))
def xgSubT (a b : TX) : TGX := fun d G O Q E => a G O (fun o O1 => b G O1 (fun i O2 => dSetT o i d O2 fun O3 => Q G O3) E) E
section
variable {X : Cx}
theorem m_dgetT (hr : Un0 X.A) : MO X "dict.get" dDGetT := ⟨_, mt_dget (by have := hr.le; omega), fun al H O x d xs ds Q R rel rx r h hq => by
  match ds, h with
  | [k], h =>
    obtain ⟨j, rfl, h⟩ := ownK.ex h
    obtain ⟨kvs, e, h⟩ := dTT.ex h
    obtain ⟨key, ek, h⟩ := h.ex
    obtain ⟨a, vs, rfl, e1, e2, e3⟩ := rx.ownT rel e
    obtain ⟨v, rfl, rv⟩ := r.one
    obtain ⟨b, rfl, eb⟩ := keyT_rp rv ek
    refine .inl ⟨a, _, valV vs key, rfl, rfl, .t e2 eb, ?_⟩
    cases e4 : valD kvs key with
    | none => rw [e4] at h; rw [e3.none e4]; exact hq _ _ _ _ _ (Stp.refl _ _) rel .non h
    | some d' => rw [e4] at h; obtain ⟨w', e5, r5⟩ := e3.some e4; rw [e5]; exact hq _ _ _ _ _ (Stp.refl _ _) rel r5 h
  | [k, z], h =>
    obtain ⟨j, rfl, h⟩ := ownK.ex h
    obtain ⟨kvs, e, h⟩ := dTT.ex h
    obtain ⟨key, ek, h⟩ := h.ex
    obtain ⟨a, vs, rfl, e1, e2, e3⟩ := rx.ownT rel e
    obtain ⟨v, w', rfl, rv, rw'⟩ := r.two
    obtain ⟨b, rfl, eb⟩ := keyT_rp rv ek
    refine .inr ⟨a, _, w', valV vs key, rfl, rfl, .t e2 eb, ?_⟩
    cases e4 : valD kvs key with
    | none => rw [e4] at h; rw [e3.none e4]; exact hq _ _ _ _ _ (Stp.refl _ _) rel rw' h
    | some d' => rw [e4] at h; obtain ⟨w', e5, r5⟩ := e3.some e4; rw [e5]; exact hq _ _ _ _ _ (Stp.refl _ _) rel r5 h⟩
theorem px_ixT {W : WX} {a b : Expr} {pos : Pos} {xa xb : TX} (hr : Un0 X.A) (ha : PX X W a xa) (hb : PX X W b xb) (hs : PlainIx b := by exact fun _ _ => rfl) : PX X W (.Subscript a b pos) (xOp dIxT xa xb) :=
  let ⟨_, p, q⟩ := ha; let ⟨_, p2, q2⟩ := hb; ⟨_, pe_ix (ix_dict (by have := hr.le; omega)) p p2 hs, rd_op (fun al H O x y d e Q R rel rx ry h hq => by
    obtain ⟨j, rfl, h⟩ := ownK.ex h
    obtain ⟨kvs, ec, h⟩ := dTT.ex h
    obtain ⟨key, ek, h⟩ := optK.ex h
    obtain ⟨z, ez, h⟩ := optK.ex h
    obtain ⟨a, vs, rfl, e1, e2, e3⟩ := rx.ownT rel ec
    obtain ⟨b, rfl, eb⟩ := keyT_rp ry ek
    obtain ⟨w', e5, r5⟩ := e3.some ez
    exact ⟨a, w', rfl, by rw [← e5]; exact .t e2 eb, hq _ _ _ _ _ (Stp.refl _ _) rel r5 h⟩) q q2⟩
theorem rd_inTD {K : PySem.W.Frag} {neg : Bool} : RdO2 K (rInDi neg) (dInTD neg) := by
  intro al H O x y d e Q R rel rx ry h hq
  obtain ⟨j, rfl, h⟩ := ownK.ex h
  obtain ⟨kvs, ec, h⟩ := dTT.ex h
  obtain ⟨key, ek, h⟩ := optK.ex h
  obtain ⟨a, vs, rfl, e1, e2, e3⟩ := ry.ownT rel ec
  obtain ⟨b, rfl, eb⟩ := keyT_rp rx ek
  refine ⟨a, valV vs key, rfl, .t e2 eb, ?_⟩
  have e4 : (valV vs key).isSome = (valD kvs key).isSome := by rw [← valV_any, ← valD_any]; exact e3.any
  rw [e4]
  exact hq _ _ _ _ _ (Stp.refl _ _) rel (.bl _) h
theorem c_inTD (hr : Un0 X.A) : CO X .In (dInTD false) := ⟨_, op_inDi (by have := hr.le; omega), rd_inTD⟩
theorem c_notInTD (hr : Un0 X.A) : CO X .NotIn (dInTD true) := ⟨_, op_notInDi (by have := hr.le; omega), rd_inTD⟩
theorem rd_gSubT {K : PySem.W.Frag} {W : WX} {ta tb : TE} {a b : TX} (ha : RdE K W ta a) (hb : RdE K W tb b) : RdG K W [] (gSub ta tb rSetD) (xgSubT a b) := by
  intro al H σ G O v d Q E R rel env r h hq he
  refine ha al H σ G O _ E _ rel env h (fun al1 H1 O1 x o s1 rel1 r1 q1 => ?_) he
  refine hb al1 H1 σ G O1 _ E _ rel1 (env.mono s1) q1 (fun al2 H2 O2 y i s2 rel2 r2 q2 => ?_) (fun _ _ _ _ _ _ s' => he _ _ _ _ _ _ (s1.trans s'))
  have s12 := s1.trans s2
  obtain ⟨k, rfl, q2⟩ := ownK.ex q2
  obtain ⟨kvs, ec, q2⟩ := dTT.ex q2
  obtain ⟨key, ek, q2⟩ := optK.ex q2
  obtain ⟨hl, q2⟩ := q2
  obtain ⟨p, xs, rfl, e3, e4, e5⟩ := (r1.mono s2).ownT rel2 ec
  obtain ⟨b, rfl, eb⟩ := keyT_rp r2 ek
  have s : Stp al2 H2 al2 (upd H2 p (.dT (putK xs key v))) := stp_set rel2.nd e3
  have e6 := (e5.put (k := key) (r.mono s12)).mono0 s.toStp0
  exact ⟨p, _, rfl, .t e4 eb (by rw [e5.len, sizeLine_eq]; omega), hq _ _ _ _ _ (s12.trans s) (rel2.set (c := .dT (putD kvs key d)) e3 ⟨_, upd_same, e6⟩) (env.mono (s12.trans s)) (fun _ _ => rfl) q2⟩
theorem pgx_subT {W : WX} {o i : Expr} {a b : TX} {pos : Pos} (hr : Un0 X.A) (ho : PX X W o a) (hi : PX X W i b)
    (ha : ∀ v, assign (.Subscript o i pos) X.env v = (do
      let ov ← holding [v] (eval o X.env)
      let iv ← holding [v, ov] (eval i X.env)
      standAt pos
      holding [v, ov, iv] (setItem ov iv v)
      release [v, ov, iv] []) := by intro _; rfl) : PGX X W (.Subscript o i pos) [] (xgSubT a b) := let ⟨_, p, q⟩ := ho; let ⟨_, p2, q2⟩ := hi; ⟨_, pg_sub p p2 (set_dict (by have := hr.le; omega)) ha, rd_gSubT q q2⟩
end
/-! ### pop of a key that is there -/
section
variable {κ : Type} [DecidableEq κ] {pr : Program} {wl : World} {kd : HeapKind pr wl κ}
theorem pop1_meets {a b : Addr} {k : κ} :
    MeetsIn pr wl (Builtin.«dict.pop» ⟨[.ref a, .ref b], []⟩) (fun B R t => ∃ ys q, kd.room B.in1 ∧ kd.is t.heap k b ∧ t.heap.DictOfH kd a ys ∧ ys.length ≤ sizeLine ∧ atKey ys k = some q ∧
      ∀ h2 tk, h2.DictOfH kd a (DT.dropH ys k) → Heap.SameBut a t.heap h2 → R (.ok (.ret q.2)) { t with heap := h2, toks := tk }) :=
  .of_wp fun B R t ⟨ys, q, r1, r2, r3, r4, r5, r6⟩ => by
    obtain ⟨o, es, ep, f1, _, f2, f3, _⟩ := id r3
    have sz : es.size = ys.length := size_of_entries f3
    have y0 : ys.length ≠ 0 := fun z => by
      rw [List.length_eq_zero_iff.mp z] at r5
      cases r5
    have ne : es.isEmpty = false := by
      cases e : es.isEmpty with
      | false => rfl
      | true => exact absurd (by rw [← sz]; simpa using e) y0
    have part : (keyPart (Value.ref b)).isSome = false := rfl
    unfold Builtin.«dict.pop»
    refine wpAny_bind ?_
    unfold Builtin.Dict.keyAndDefault
    refine wpAny_bind (wpAny_notOrdered_dict r3.typeIs ?_)
    show wpAny _ _ (pure (a, Value.ref b, none)) _ _ t
    refine wpAny_pure ?_
    simp only [part, Bool.false_eq_true, if_false]
    refine wpAny_bind (wpAny_dictEntries f1 f2 (wpAny_bind (wpAny_pure ?_)))
    rw [ne]
    simp only [Bool.false_eq_true, if_false]
    refine wpAny_bind (DT.takeH r1 r2 r3 r4 (fun z => by rw [r5] at z; cases z) fun p e hp he h2 m2 s2 => ?_)
    rw [r5] at hp
    cases hp
    simp only [Option.isNone_some, Bool.false_eq_true, if_false]
    exact wpAny_bind (wpAny_letGo (wpAny_pure ⟨e.val, rfl, by rw [he]; exact r6 h2 _ m2 s2⟩))
end
section
variable {X : Cx}
def rPop1T : V → List V → Hp → VK → Prop := fun x xs G R => ∃ (p : Addr) (kvs : List (List Key × V)) (k : List Key) (b : Addr) (v : V), x = .ref p ∧ xs = [.ref b] ∧ G p = some (.dT kvs) ∧ G b = some (.tup (k.map kV)) ∧ valV kvs k = some v ∧ R v (upd G p (.dT (dropK kvs k)))
theorem mt_pop1T (hu : X.A.units + 1 < cLine) : MtR X "dict.pop" rPop1T := by
  intro pins t σ G x xs v us R I rx rxs h
  obtain ⟨p, kvs, k, b, y, rfl, rfl, hp, hb, hv, q⟩ := h
  cases rx
  obtain ⟨u, rfl, r1⟩ := vals1 rxs
  cases r1
  obtain ⟨z, hd, ys, rel, dd⟩ := dt_of I.hok hp
  have hz : ys.length ≤ sizeLine := by rw [← Paired.length rel]; exact z
  have r := rel.val k
  rw [hv] at r
  cases e : atKey ys k with
  | none =>
    rw [e] at r
    exact (show False from r).elim
  | some pq =>
    rw [e] at r
    have r : RelV y pq.2 := r
    refine call_meetsIn PySem.F.slot_dict_pop dd.typeIs PySem.F.entry_dict_pop (PySem.F.args_dict_pop_2 _ _) (pop1_meets (kd := tupleKind (mixKind X.prog X.w)) (k := k))
      ⟨ys, pq, tupleKind_room_in1 hu, key_of I.hok hb, dd, hz, e, fun h2 tk dd2 hs => ?_⟩
    obtain ⟨o, es, ep, g1, g2, g3, g4, _, g5⟩ := dd2
    have I2 : Inv X pins σ (upd G p (.dT (dropK kvs k))) { t with heap := h2, toks := tk } :=
      d_write I (by rw [hp]; exact True.intro) hs ⟨o, g1⟩ ⟨Nat.le_trans (dropK_le kvs k) z, hd, _, (DX.KT_drop k rel).keeps (fun c ws ec => (by rw [upd_ne (ne_of ec hp (fun z => nomatch z))]; exact ec)), o, es, ep, g1, g2, g3, g4, g5⟩
    exact ⟨y, _, I2, r, q⟩
def dPopT (d : D) (ds : List D) (O : Om) (Q : QX) : Prop := match ds with
  | [k] => ownK d fun j => optK O[j]? fun c => dTT c fun kvs => optK (keyT k) fun key => optK (valD kvs key) fun x => Q x (O.set j (.dT (dropD kvs key)))
  | _ => False
theorem m_dpopT (hr : Un0 X.A) : MO X "dict.pop" dPopT := ⟨_, mt_pop1T (by have := hr.le; omega), fun al H O x d xs ds Q R rel rx r h hq => by
  match ds, h with
  | [k], h =>
    obtain ⟨j, rfl, h⟩ := ownK.ex h
    obtain ⟨kvs, e, h⟩ := dTT.ex h
    obtain ⟨key, ek, h⟩ := optK.ex h
    obtain ⟨y, ey, h⟩ := optK.ex h
    obtain ⟨a, vs, rfl, e1, e2, e3⟩ := rx.ownT rel e
    obtain ⟨v, rfl, rv⟩ := r.one
    obtain ⟨b, rfl, eb⟩ := keyT_rp rv ek
    obtain ⟨w', e5, r5⟩ := e3.some ey
    have s : Stp al H al (upd H a (.dT (dropK vs key))) := stp_set rel.nd e1
    exact ⟨a, vs, key, b, w', rfl, rfl, e2, eb, e5, hq _ _ _ _ _ s (rel.set (c := .dT (dropD kvs key)) e1 ⟨_, upd_same, (e3.drop).mono0 s.toStp0⟩) (r5.mono s) h⟩⟩
end
/-! ### l.extend(own list); a or b, of any things -/
def dExtend (d : D) (ds : List D) (O : Om) (Q : QX) : Prop := match d, ds with
  | .own k, [.own j] => optK O[k]? fun c => lstK c fun es => optK O[j]? fun c2 => lstK c2 fun fs => es.length + fs.length ≤ 1000000 ∧ Q .non (O.set k (.lst (es ++ fs)))
  | _, _ => False
section
variable {X : Cx}
theorem m_extend : MO X "list.extend" dExtend := ⟨_, mt_extend, fun al H O x d xs ds Q R rel rx rxs h hq => by
  match d, ds, h with
  | .own k, [.own j], h =>
    obtain ⟨es, e1, h⟩ := lstK.ex h
    obtain ⟨fs, f1, h2, h3⟩ := lstK.ex h
    obtain ⟨v, rfl, rv⟩ := rxs.one
    obtain ⟨a, ys, rfl, e4, e5, e6, e7⟩ := rx.ownL rel e1
    obtain ⟨b, zs, rfl, f4, f5, f6, f7⟩ := rv.ownL rel f1
    have s : Stp al H al (upd H a (.lst (ys ++ zs))) := stp_set rel.nd e4
    have hl : ys.length + zs.length ≤ sizeLine := by rw [e7.length, f7.length, sizeLine_eq]; omega
    exact ⟨a, b, ys, zs, rfl, rfl, e5, f5, hl, hq _ _ _ _ _ s (rel.set (c := .lst (es ++ fs)) e4 ⟨_, upd_same, by rw [List.length_append]; exact hl, (e7.append f7).mono s⟩) .non h3⟩⟩
end
def xOrA (a b : TX) : TX := fun G O Q E => a G O (fun d O1 => dTru O1 d fun k => xite k (Q d O1) (b G O1 Q E)) E
theorem rd_orA {K : PySem.W.Frag} {W : WX} {ta tb : TE} {a b : TX} (ha : RdE K W ta a) (hb : RdE K W tb b) : RdE K W (tOrT K ta tb) (xOrA a b) := by
  intro al H σ G O Q E R rel env q hq he
  refine ha al H σ G O _ E _ rel env q (fun al1 H1 O1 v d s1 rel1 r1 q1 => ?_) he
  obtain ⟨k, h1, h2⟩ := tru_rp rel1 r1 q1
  refine ⟨k, h1, ?_⟩
  cases k with
  | true => exact hq _ _ _ _ _ s1 rel1 r1 h2
  | false => exact hb al1 H1 σ G O1 Q E R rel1 (env.mono s1) h2 (fun _ _ _ _ _ s' => hq _ _ _ _ _ (s1.trans s')) (fun _ _ _ _ _ _ s' => he _ _ _ _ _ _ (s1.trans s'))
theorem px_orA {X : Cx} {W : WX} {a b : Expr} {rest : List Expr} {pos : Pos} {t u : TX} (h : PX X W a t) (h2 : PX X W (.BoolOp .Or (b :: rest) pos) u) : PX X W (.BoolOp .Or (a :: b :: rest) pos) (xOrA t u) := let ⟨_, p, q⟩ := h; let ⟨_, p2, q2⟩ := h2; ⟨_, pe_orT p p2, rd_orA q q2⟩
end Px

/-! ### str(x): of a number, a text, a flat tuple -/
namespace PySem
open PySem.Spec PyProof.Rows
section
variable {prog : Program} {w : World} {A : Around} {E : Value → Shared → Prop} {s : Shared}
/-- tuple.__repr__, whatever is under way: which text it is -/
theorem pxs_tuple_repr {a : Addr} {o : Obj} {items : Array Value} {n : Nat} {ts : List Str} {Q : Value → Shared → Prop} (ha : s.heap.get? a = some o) (hc : o.cls = .type "tuple") (hd : o.data = .seq items n) (hT : ReprAll prog w items.toList ts) (hsz : (tupleText ts).length ≤ sizeLine)
    (h : ∀ (m : Str) (u tk : Tok), m = "(...)" ∨ m = tupleText ts → Q (.str m u) { s with toks := tk }) : wpAny (model prog w) A (call (.builtin "tuple.__repr__") [.ref a]) Q E s := by
  refine wpAny_call (codeAny_call_builtin_own (Code.quiet_builtin _ (by decide +kernel)) F.entry_tuple_repr (F.slot_tuple_repr.check _ _ _ _ _ _ _ _ ⟨o, ha, hc⟩ (F.args_tuple_repr_1 _) (wpOwn_of_wpAny ?_)))
  show wpAny _ _ (Builtin.tupleReprAt 0 ⟨[.ref a], []⟩) _ _ s
  rw [tuple_repr_tree]
  refine wpAny_bind (fmt_underWay fun b => ?_)
  cases b with
  | true =>
    refine PySem.W.KFB.if_so rfl ?_
    refine wpAny_bind (wpAny_rule ?_)
    refine wpAny_bind (wpAny_mkStr (wpAny_pure ?_) (by decide +kernel))
    exact h "(...)" _ _ (.inl rfl)
  | false =>
    refine PySem.W.KFB.if_not rfl ?_
    refine wpAny_tupleReprRest ha hd hT (fun u tk => ?_) (by omega)
    exact h (tupleText ts) u tk (.inr rfl)
/-- str(t) -/
theorem pxs_str_tuple {a : Addr} {o : Obj} {items : Array Value} {n : Nat} {ts : List Str} {Q : Value → Shared → Prop} (hu : A.units + 3 < cLine) (ha : s.heap.get? a = some o) (hc : o.cls = .type "tuple") (hd : o.data = .seq items n) (hT : ∀ prog w, ReprAll prog w items.toList ts) (hsz : (tupleText ts).length ≤ sizeLine)
    (h : ∀ (m : Str) (u tk : Tok), m = "(...)" ∨ m = tupleText ts → Q (.str m u) { s with toks := tk }) : wpAny (model prog w) A (call (.type "str") [.ref a]) Q E s :=
  callType_new F.called_str (by decide) (F.typeCall_str_1 _) (F.newCall_str_1 _) (fun obj => F.args_object_init_2 obj _) F.entry_str_new
    (meets_str_new (S := fun A' R s' => A'.units + 2 < cLine ∧ s'.heap.get? a = some o ∧ ∀ (m : Str) (u tk : Tok), m = "(...)" ∨ m = tupleText ts → R (.ok (.ret (.str m u))) { s' with toks := tk })
      fun prog' w' A' R s' h => wpAny_strOf_slot rfl (by show A'.units + 1 + 1 < cLine; have := h.1; omega) ⟨o, h.2.1, hc⟩ F.slot_tuple_str F.slot_tuple_repr
        (pxs_tuple_repr h.2.1 hc hd (hT _ _) hsz fun m u tk hm => ⟨m, u, rfl, h.2.2 m u tk hm⟩))
    ⟨by show A.units + 1 + 2 < cLine; omega, ha, fun m u tk hm => ⟨typeIs_str _ _ _, h m u tk hm⟩⟩
end
end PySem
namespace Px
open PySem PySem.Spec PyProof.Rows L2
/-! #### the signs of a repr -/
theorem hex_sign {c k : Nat} : ∀ x ∈ List.replicate k 48 ++ (Nat.toDigits 16 c).map Char.toNat, x < 0x110000 := fun x hx => by
  rcases List.mem_append.mp hx with hx | hx
  · rw [List.eq_of_mem_replicate hx]; decide
  · obtain ⟨ch, _, rfl⟩ := List.mem_map.mp hx
    have := ch.valid
    show ch.val.toNat < _
    rcases this with z | z
    · have z : ch.val.toNat < 55296 := z
      omega
    · exact z.2
theorem reprChar_sign {q c : Nat} (hq : q < 0x110000) (hc : c < 0x110000) : ∀ x ∈ PySem.Builtin.Str.reprChar q c, x < 0x110000 := fun x hx => by
  unfold PySem.Builtin.Str.reprChar at hx
  dsimp only at hx
  have two : ∀ {a b : Nat}, a < 0x110000 → b < 0x110000 → x ∈ [a, b] → x < 0x110000 := fun ha hb h => by
    rcases List.mem_cons.mp h with e | h
    · rw [e]; exact ha
    · rw [List.mem_singleton.mp h]; exact hb
  have pre : ∀ {a b : Nat} {l : List Nat}, a < 0x110000 → b < 0x110000 → (∀ y ∈ l, y < 0x110000) → x ∈ [a, b] ++ l → x < 0x110000 := fun ha hb hl h => by
    rcases List.mem_append.mp h with h | h
    · exact two ha hb h
    · exact hl x h
  repeat' split at hx
  · exact two (by decide) hc hx
  · exact two (by decide) (by decide) hx
  · exact two (by decide) (by decide) hx
  · exact two (by decide) (by decide) hx
  · rw [List.mem_singleton.mp hx]; exact hc
  · exact pre (by decide) (by decide) hex_sign hx
  · exact pre (by decide) (by decide) hex_sign hx
  · exact pre (by decide) (by decide) hex_sign hx
theorem strOk_iff {x : Str} : PyData.strOk x = true ↔ ∀ c ∈ x.cps.toList, c < 0x110000 := by
  unfold PyData.strOk
  rw [← Array.all_toList, List.all_eq_true]
  constructor
  · intro h c hc; exact of_decide_eq_true (h c hc)
  · intro h c hc; exact decide_eq_true (h c hc)
theorem reprQuote_sign (x : Str) : reprQuote x < 0x110000 := by
  unfold reprQuote
  split <;> decide
theorem reprText_ok {x : Str} (h : PyData.strOk x = true) : PyData.strOk (reprText x) = true := by
  rw [strOk_iff] at h ⊢
  intro c hc
  have hq := reprQuote_sign x
  have gen : ∀ (l : List Nat) (acc : Array Nat), (∀ c ∈ acc.toList, c < 0x110000) → (∀ c ∈ l, c < 0x110000) → ∀ c ∈ (l.foldl (fun out c => out ++ (PySem.Builtin.Str.reprChar (reprQuote x) c).toArray) acc).toList, c < 0x110000 := fun l => by
    induction l with
    | nil => intro acc ha _; exact ha
    | cons y l ih =>
      intro acc ha hl
      rw [List.foldl_cons]
      refine ih _ (fun c hc => ?_) fun c hc => hl c (.tail _ hc)
      rw [Array.toList_append] at hc
      rcases List.mem_append.mp hc with hc | hc
      · exact ha c hc
      · exact reprChar_sign hq (hl y (.head _)) c hc
  have hc' : c ∈ ((x.cps.foldl (fun out c => out ++ (PySem.Builtin.Str.reprChar (reprQuote x) c).toArray) #[reprQuote x]).push (reprQuote x)).toList := hc
  rw [Array.toList_push, ← Array.foldl_toList] at hc'
  rcases List.mem_append.mp hc' with hc' | hc'
  · exact gen _ _ (fun c hc => by
      have hc : c ∈ [reprQuote x] := hc
      rw [List.mem_singleton.mp hc]; exact hq) h c hc'
  · rw [List.mem_singleton.mp hc']; exact hq
theorem numS_len {i : Int} (h0 : 0 ≤ i) (h : i < 10 ^ 100) : (Str.ofString (toString i)).length ≤ 100 := by
  obtain ⟨m, rfl⟩ := Int.eq_ofNat_of_zero_le h0
  have e : (Str.ofString (toString ((m : Nat) : Int))).cps.toList.length ≤ 100 := by
    rw [PySem.W.KIN.signs_num, List.length_map]
    exact (Nat.length_toDigits_le_iff (by decide) (by decide)).mpr (by omega)
  rwa [Array.length_toList] at e
/-- what is flat -/
def flatV (v : V) : Prop := (∃ i : Int, v = .int i ∧ 0 ≤ i ∧ i < 10 ^ 100) ∨ ∃ x, v = .str x ∧ SOk x ∧ x.length ≤ 1000
def txV (v : V) : Str := match v with
  | .int i => Str.ofString (toString i)
  | .str x => reprText x
  | _ => Str.empty
theorem txV_ok {v : V} (h : flatV v) : (txV v).length ≤ 10002 ∧ SOk (txV v) := by
  rcases h with ⟨i, rfl, h0, h1⟩ | ⟨x, rfl, hx, hl⟩
  · exact ⟨Nat.le_trans (numS_len h0 h1) (by decide), sok_toString h0 h1⟩
  · have h1 := StrLaws.reprText_len x fun c hc => Nat.lt_of_lt_of_le (strOk_iff.mp hx.2 c hc) (by decide)
    refine ⟨by show (reprText x).length ≤ _; omega, ?_, reprText_ok hx.2⟩
    show (reprText x).length ≤ _
    rw [sizeLine_eq]; omega
theorem repr_flat {prog : Program} {w : World} : ∀ {l : List V} {its : List Value}, Vals l its → (∀ v ∈ l, flatV v) → ReprAll prog w its (l.map txV)
  | [], _, r, _ => by
    cases r
    exact .nil
  | v :: l, _, r, h => by
    cases r with
    | cons r1 r2 =>
      refine .cons ?_ (repr_flat r2 fun z hz => h z (List.mem_cons_of_mem _ hz))
      have hv := h v List.mem_cons_self
      have ok := txV_ok hv
      rcases hv with ⟨i, rfl, h0, h1⟩ | ⟨x, rfl, hx, hl⟩
      · obtain ⟨t, rfl⟩ := r1
        exact ReprIs.int t (log_ok h0 h1)
      · obtain ⟨t, rfl⟩ := r1
        exact ReprIs.str x t ok.2.1
theorem flat_piled : ∀ {l : List V}, (∀ v ∈ l, flatV v) → piled (l.map txV) ≤ l.length * 10004
  | [], _ => Nat.zero_le _
  | v :: l, h => by
    have h1 := (txV_ok (h v List.mem_cons_self)).1
    have h2 := flat_piled fun z hz => h z (List.mem_cons_of_mem _ hz)
    rw [List.map_cons, piled_cons, List.length_cons]
    omega
theorem tupleText_ok {ts : List Str} (h : ∀ t ∈ ts, PyData.strOk t = true) : PyData.strOk (tupleText ts) = true := by
  have app : ∀ {x y : Str}, PyData.strOk x = true → PyData.strOk y = true → PyData.strOk (x ++ y) = true := fun hx hy => by
    rw [strOk_iff] at hx hy ⊢
    intro c hc
    rw [Str.cps_append, Array.toList_append] at hc
    rcases List.mem_append.mp hc with hc | hc
    · exact hx c hc
    · exact hy c hc
  have jn : ∀ ts : List Str, (∀ t ∈ ts, PyData.strOk t = true) → PyData.strOk (Str.join ", " ts) = true := fun ts => by
    induction ts with
    | nil => intro _; decide +kernel
    | cons t ts ih =>
      intro h
      cases ts with
      | nil => exact h t (.head _)
      | cons u ts => exact app (app (h t (.head _)) (by decide +kernel)) (ih fun t ht => h t (.tail _ ht))
  unfold tupleText
  exact app (app (by decide +kernel) (jn ts h)) (by split <;> decide +kernel)
def rStrT (K : PySem.W.Frag) : List V → Hp → VK → Prop := fun xs H Q => ∃ a ws, xs = [.ref a] ∧ SqT K H a ws ∧ ws.length ≤ 100 ∧ (∀ v ∈ ws, flatV v) ∧ ∀ m, SOk m → Q (.str m) H
theorem cr_strT {X : Cx} (hr : Un0 X.A) : CallR X (.type "str") (rStrT X.K) := by
  intro pins s σ H xs us Q I r h
  obtain ⟨a, ws, rfl, hs, hl, hf, q⟩ := h
  obtain ⟨u, rfl, ru⟩ := vals1 r
  obtain rfl : u = Value.ref a := ru
  obtain ⟨its, rv, ⟨o, ho, hcl, n, hd⟩, _⟩ := I.tuple hs
  have hp := flat_piled hf
  have htx := fmt_text (ws.map txV)
  have hz : (tupleText (ws.map txV)).length ≤ sizeLine := by
    rw [sizeLine_eq]
    have : ws.length * 10004 ≤ 100 * 10004 := Nat.mul_le_mul_right _ hl
    omega
  refine pxs_str_tuple (by have := hr.le64; omega) ho hcl hd (fun _ _ => repr_flat rv hf) hz fun m u tk hm => ⟨.str m, H, I.tok _, ⟨u, rfl⟩, q m ?_⟩
  rcases hm with rfl | rfl
  · exact ⟨by rw [sizeLine_eq]; decide +kernel, by decide +kernel⟩
  · refine ⟨hz, tupleText_ok fun t ht => ?_⟩
    obtain ⟨v, hv, rfl⟩ := List.mem_map.mp ht
    exact (txV_ok (hf v hv)).2.2
def flatD (d : D) : Bool := match d with
  | .int i => decide (0 ≤ i) && decide (i < 10 ^ 100)
  | .str x => decide (x.length ≤ 1000)
  | _ => false
def dStrA (ds : List D) (O : Om) (Q : QX) : Prop := match ds with
  | [.int i] => 0 ≤ i ∧ i < 10 ^ 100 ∧ Q (.str (Str.ofString (toString i))) O
  | [.str x] => Q (.str x) O
  | [.tup es] => (es.length ≤ 100 ∧ es.all flatD = true) ∧ ∀ m : Str, Q (.str m) O
  | _ => False
theorem flatS_rp {K : PySem.W.Frag} {al : AL} {H : Hp} : ∀ {vs : List V} {es : List D}, RpA K al H vs es → es.all flatD = true → ∀ v ∈ vs, flatV v
  | _, _, .nil, _, v, hv => nomatch hv
  | v :: vs, d :: es, .cons r1 r2, h, z, hz => by
    have h' : (flatD d && es.all flatD) = true := h
    rw [Bool.and_eq_true] at h'
    rcases List.mem_cons.mp hz with e | hz
    · subst e
      cases r1 with
      | int i =>
        have h1 : (decide (0 ≤ i) && decide (i < 10 ^ 100)) = true := h'.1
        rw [Bool.and_eq_true] at h1
        exact .inl ⟨i, rfl, of_decide_eq_true h1.1, of_decide_eq_true h1.2⟩
      | str x hx => exact .inr ⟨x, rfl, hx, of_decide_eq_true h'.1⟩
      | _ => cases h'.1
    · exact flatS_rp r2 h'.2 z hz
theorem f_strA {X : Cx} (hr : Un0 X.A) : FO X (.type "str") dStrA := ⟨_, CallR.or (CallR.or call_str_int SkE.call_str_str) (cr_strT hr), fun al H O xs ds Q R rel r h hq => by
  match ds, h with
  | [.int i], h => obtain ⟨v, rfl, rv⟩ := r.one; cases rv; exact .inl (.inl ⟨i, rfl, log_ok h.1 h.2.1, hq _ _ _ _ _ (Stp.refl _ _) rel (.str _ (sok_toString h.1 h.2.1)) h.2.2⟩)
  | [.str x], h => obtain ⟨v, rfl, rv⟩ := r.one; cases rv with | str _ hs => exact .inl (.inr ⟨x, rfl, hq _ _ _ _ _ (Stp.refl _ _) rel (.str _ hs) h⟩)
  | [.tup es], h =>
    obtain ⟨⟨h1, h2⟩, h⟩ := h
    obtain ⟨v, rfl, rv⟩ := r.one
    obtain ⟨a, ws, rfl, hs, hr2, _⟩ := rv.tupI
    exact .inr ⟨a, ws, rfl, hs, by rw [hr2.length]; exact h1, flatS_rp hr2 h2, fun m hm => hq _ _ _ _ _ (Stp.refl _ _) rel (.str _ hm) (h m)⟩⟩
end Px

/-! ### a tuple times nought or one -/
namespace L2
open PySem PySem.Spec PyProof.Rows
theorem tuple_mul1 (l : Addr) (items : Array Value) (n : Nat) (dd : Option Addr) (sl : Array (Option Value)) (u : Tok) :
    Meets (Builtin.«tuple.__mul__» ⟨[.ref l, .int 1 u], []⟩) (fun _ R s => s.heap.get? l = some { cls := .type "tuple", dict := dd, data := .seq items n, slots := sl } ∧ R (.ok (.ret (Value.ref l))) s) :=
  .of_wp fun prog w A R s h => by
    obtain ⟨hp, g, d, tk, os⟩ := s
    obtain ⟨hl, h⟩ := h
    have f1 := AutoSeq1.idx_int
    have c0 : (decide ((1 : Int) < -(2 ^ 63)) || decide ((1 : Int) ≥ 2 ^ 63)) = false := by decide
    have c1 : (items.isEmpty || (1 : Int) == 1) = true := by simp
    wp_walk using wpAny_loadPart' hl
    exact ⟨_, rfl, h⟩
theorem tuple_mul0 (l : Addr) (items : Array Value) (n : Nat) (dd : Option Addr) (sl : Array (Option Value)) (u : Tok) (hne : items.isEmpty = false) :
    Meets (Builtin.«tuple.__mul__» ⟨[.ref l, .int 0 u], []⟩) (fun _ R s => s.heap.get? l = some { cls := .type "tuple", dict := dd, data := .seq items n, slots := sl } ∧
      R (.ok (.ret (Value.ref s.heap.objs.size))) { s with heap := s.heap.push { cls := Value.type "tuple", data := Data.seq #[] }, toks := s.toks }) :=
  .of_wp fun prog w A R s h => by
    obtain ⟨hp, g, d, tk, os⟩ := s
    obtain ⟨hl, h⟩ := h
    have f1 := AutoSeq1.idx_int
    have c0 : (decide ((0 : Int) < -(2 ^ 63)) || decide ((0 : Int) ≥ 2 ^ 63)) = false := by decide
    have c1 : (items.isEmpty || (0 : Int) == 1) = false := by rw [hne]; rfl
    have c2 : (decide ((0 : Int) ≤ 0) || items.isEmpty) = true := by simp
    wp_walk using wpAny_loadPart' hl
    exact ⟨_, rfl, h⟩
def rMul01 (K : PySem.W.Frag) : R2 := fun x y H Q => ∃ l k xs, x = .ref l ∧ y = .int k ∧ SqT K H l xs ∧ xs ≠ [] ∧ ((k = 1 ∧ Q (.ref l) H) ∨ (k = 0 ∧ ∀ p, H p = none → Q (.ref p) (upd H p (.tup []))))
section
variable {X : Cx}
theorem op_mul01 : OpR X (binaryOp .Mult) (rMul01 X.K) := by
  intro pins s σ H x y v u Q I rx ry h
  obtain ⟨l, k, xs, rfl, rfl, hT, hne, h⟩ := h
  cases rx
  obtain ⟨t, rfl⟩ := ry
  obtain ⟨its, r, ⟨⟨cls, dd, data, sl⟩, ho, hc, n, hd⟩, hs⟩ := I.tuple hT
  simp only at hc hd
  subst hc hd
  have hle : its.length = xs.length := r.length.symm
  have hn : its ≠ [] := fun e => hne (by
    rw [e] at hle
    exact List.eq_nil_of_length_eq_zero hle.symm)
  have hi : its.toArray.isEmpty = false := by
    cases its with
    | nil => exact absurd rfl hn
    | cons a b => rfl
  rcases h with ⟨rfl, q⟩ | ⟨rfl, q⟩
  · refine wpAny_binaryOp_repeat_ref (T := "tuple") (U := "int") (by decide) ⟨_, ho, rfl⟩ (fun s' => typeIs_int s' 1 t) noFill_tuple_mul F.fills_int_mul F.slot_int_rmul repeat_tuple F.slot_int_index.lookup
      (call_meets F.slot_int_rmul (typeIs_int s 1 t) F.entry_int_rmul (F.args_int_rmul_2 _ _) (int_rmul_tuple 1 t l its.toArray n dd sl)
        ⟨ho, rfl, ⟨_, ho, rfl⟩, call_meets F.slot_tuple_mul ⟨_, ho, rfl⟩ F.entry_tuple_mul (F.args_tuple_mul_2 _ _) (tuple_mul1 l its.toArray n dd sl t) ⟨ho, ?_⟩⟩)
    exact ⟨.ref l, H, I, rfl, q⟩
  · refine wpAny_binaryOp_repeat_ref (T := "tuple") (U := "int") (by decide) ⟨_, ho, rfl⟩ (fun s' => typeIs_int s' 0 t) noFill_tuple_mul F.fills_int_mul F.slot_int_rmul repeat_tuple F.slot_int_index.lookup
      (call_meets F.slot_int_rmul (typeIs_int s 0 t) F.entry_int_rmul (F.args_int_rmul_2 _ _) (int_rmul_tuple 0 t l its.toArray n dd sl)
        ⟨ho, rfl, ⟨_, ho, rfl⟩, call_meets F.slot_tuple_mul ⟨_, ho, rfl⟩ F.entry_tuple_mul (F.args_tuple_mul_2 _ _) (tuple_mul0 l its.toArray n dd sl t hi) ⟨ho, ?_⟩⟩)
    refine ⟨.ref s.heap.objs.size, _, I.laid (t' := s.toks) (o := .tup []) (fun b ob q => Heap.get?_push_of_some _ q) (Nat.le_refl _) ?_, rfl, q _ (I.hok.fresh (Nat.le_refl _))⟩
    exact ⟨Nat.zero_le _, [], .nil, IsTup.new _ _⟩
end
end L2
namespace Px
open PySem PySem.Spec PyProof.Rows L2
def dMulT (d e : D) (O : Om) (Q : QX) : Prop := match d with
  | .tup ds => match e with
    | .int n => ds.isEmpty = false ∧ xite (decide (n = 1)) (Q (.tup ds) O) (n = 0 ∧ Q (.tup []) O)
    | _ => False
  | d => dMul d e O Q
theorem o_mulT {X : Cx} : BO X .Mult dMulT := let ⟨_, h1, h2⟩ := o_mulA (X := X); ⟨_, OpR.or h1 op_mul01, fun al H O x y d e Q R rel rx ry h hq => by
  cases d with
  | tup ds =>
    cases e with
    | int n =>
      obtain ⟨hne, h⟩ := h
      obtain ⟨a, xs, rfl, hs, hr, hz⟩ := rx.tupI
      cases ry
      have hx : xs ≠ [] := fun e => by
        have := hr.length
        rw [e] at this
        rw [List.eq_nil_of_length_eq_zero this.symm] at hne
        cases hne
      refine .inr ⟨a, n, xs, rfl, rfl, hs, hx, ?_⟩
      by_cases e : n = 1
      · rw [decide_eq_true e] at h
        exact .inl ⟨e, hq _ _ _ _ _ (Stp.refl _ _) rel rx h⟩
      · rw [decide_eq_false e] at h
        exact .inr ⟨h.1, fun p hp => hq _ _ _ _ _ (stp_new rel.live hp) (rel.new hp) (.tup ⟨(fun hm => rel.live _ hm hp), upd_same⟩ (Nat.zero_le _) .nil) h.2⟩
    | _ => exact (show False from h).elim
  | _ => exact .inl (h2 al H O x y _ e Q R rel rx ry h hq)⟩
end Px

namespace Px
open PySem PySem.Spec PyProof.Rows L2
/-! ### `x in NAME` as a test -/
theorem ptx_inT {X : Cx} {W : WX} {x : Str} {ds : List D} {e : Expr} {t : TX} {p pos : Pos} (g : ConT X.K X.mg x ds) (h : PX X W e t) (hg : Gl X x := by rfl) (hd : (x == ("__debug__" : Str)) = false := by decide) (hm : behindInMarks .In (.Name x p) = false := by first | rfl | exact nomark _) : PTX X W (.Compare e [.In] [.Name x p] pos) (xBool (xInT false ds t)) :=
  let ⟨_, _, e1, e2, e3⟩ := g.ex; let ⟨_, p1, q1⟩ := h; ⟨_, pt_cmpR op_in_seq p1 (pe_glob (v := .ref _) hg e1 rfl hd) hm, rd_bool (rd_inT e2 e3 q1)⟩
theorem ptx_notInT {X : Cx} {W : WX} {x : Str} {ds : List D} {e : Expr} {t : TX} {p pos : Pos} (g : ConT X.K X.mg x ds) (h : PX X W e t) (hg : Gl X x := by rfl) (hd : (x == ("__debug__" : Str)) = false := by decide) (hm : behindInMarks .NotIn (.Name x p) = false := by first | rfl | exact nomark _) : PTX X W (.Compare e [.NotIn] [.Name x p] pos) (xBool (xInT true ds t)) :=
  let ⟨_, _, e1, e2, e3⟩ := g.ex; let ⟨_, p1, q1⟩ := h; ⟨_, pt_cmpR op_notIn_seq p1 (pe_glob (v := .ref _) hg e1 rfl hd) hm, rd_bool (rd_inT e2 e3 q1)⟩
theorem ptx_kin {X : Cx} {W : WX} {x : Str} {kvs : List (Str × D)} {e : Expr} {p pos : Pos} {xa : TX} (g : KTab X.K X.w X.mg x kvs) (ha : PX X W e xa) (hg : Gl X x := by rfl) (hd : (x == ("__debug__" : Str)) = false := by decide) (hm : behindInMarks .In (.Name x p) = false := by first | rfl | exact nomark _) :
    PTX X W (.Compare e [.In] [.Name x p] pos) (xBool (xKIn kvs false xa)) := by
  obtain ⟨a, es, n, pn, D, tab⟩ := pe_tabname (p := p) g hg hd
  obtain ⟨te, p1, q1⟩ := ha
  refine ⟨_, pt_cmpR (r := fun x y H Q => ∃ (z : Str) (r : Option Value), x = .str z ∧ y = .ref a ∧ PySem.W.nsIn X.K a z = some r ∧ Q (.bl (false.xor r.isSome)) H) ?_ p1 pn hm, rd_bool (rd_kin tab q1)⟩
  have z := op_in_kd (X := X) D
  simp only [Bool.false_xor]
  exact z
end Px

namespace Px
open PySem PySem.Spec PyProof.Rows L2
open PySem.Builtin.Str
/-! ### x.count(sign), x.rfind(sign) -/
theorem subAt_one {x : Str} {c i : Nat} : subAt x ⟨#[c]⟩ i = decide (x.cps.toList[i]? = some c) := by
  unfold subAt
  show (x.cps.extract i (i + 1) == #[c]) = _
  have e : (x.cps.extract i (i + 1)).toList = (x.cps.toList.drop i).take 1 := by simp
  rw [Bool.eq_iff_iff, beq_iff_eq, decide_eq_true_iff]
  constructor
  · intro h
    have h2 := congrArg Array.toList h
    rw [e] at h2
    have h3 : ((x.cps.toList.drop i).take 1)[0]? = some c := by rw [h2]; rfl
    rw [List.getElem?_take] at h3
    simpa using h3
  · intro h
    refine Array.toList_inj.mp ?_
    rw [e]
    have h3 : (x.cps.toList.drop i)[0]? = some c := by simpa using h
    cases hd : x.cps.toList.drop i with
    | nil => rw [hd] at h3; cases h3
    | cons a r =>
      rw [hd] at h3
      obtain rfl := Option.some.inj h3
      rfl
theorem occ_count (x : Str) (c : Nat) : (occurrences x ⟨#[c]⟩ 0 x.length (x.length + 1)).length = x.cps.toList.count c := by
  rw [StrLaws.occ_eq]
  have hL : x.cps.toList.length = x.length := Array.length_toList
  have gen : ∀ (k a : Nat) (st : Array Nat × Nat), st.1.size ≤ a → st.2 ≤ a → a + k = x.length + 1 →
      (forIn (List.range' a k) st (StrLaws.occBody x ⟨#[c]⟩ x.length (x.length + 1))).run.fst.size = st.1.size + (x.cps.toList.drop a).count c := by
    intro k
    induction k with
    | zero =>
      intro a st h1 h2 h3
      rw [show x.cps.toList.drop a = [] from List.drop_eq_nil_of_le (by omega)]
      simp
    | succ k ih =>
      intro a st h1 h2 h3
      rw [List.range'_succ]
      by_cases ha : a < x.length
      · have hd : x.cps.toList.drop a = x.cps.toList[a]'(by omega) :: x.cps.toList.drop (a + 1) := List.drop_eq_getElem_cons (by omega)
        by_cases hc : x.cps.toList[a]? = some c
        · have hb : StrLaws.occBody x ⟨#[c]⟩ x.length (x.length + 1) a st = pure (.yield (st.1.push a, a + 1)) := by
            unfold StrLaws.occBody
            exact if_pos ⟨⟨⟨by omega, h2⟩, by show a + 1 ≤ _; omega⟩, by rw [subAt_one, decide_eq_true hc]⟩
          rw [List.forIn_cons, hb]
          refine Eq.trans (ih (a + 1) (st.1.push a, a + 1) (by show (st.1.push a).size ≤ _; rw [Array.size_push]; omega) (Nat.le_refl _) (by omega)) ?_
          show (st.1.push a).size + _ = _
          rw [Array.size_push, hd, List.count_cons, show x.cps.toList[a]'(by omega) = c from by
            rw [List.getElem?_eq_getElem (by omega)] at hc; exact Option.some.inj hc]
          simp
          omega
        · have hb : StrLaws.occBody x ⟨#[c]⟩ x.length (x.length + 1) a st = pure (.yield st) := by
            unfold StrLaws.occBody
            exact if_neg fun z => by rw [subAt_one, decide_eq_false hc] at z; cases z.2
          rw [List.forIn_cons, hb]
          refine Eq.trans (ih (a + 1) st (by omega) (by omega) (by omega)) ?_
          rw [hd, List.count_cons, if_neg]
          · rfl
          · intro e
            rw [List.getElem?_eq_getElem (by omega)] at hc
            exact hc (by rw [eq_of_beq e])
      · have hb : StrLaws.occBody x ⟨#[c]⟩ x.length (x.length + 1) a st = pure (.yield st) := by
          unfold StrLaws.occBody
          exact if_neg fun z => by have z : a + 1 ≤ x.length := z.1.2; omega
        rw [List.forIn_cons, hb]
        refine Eq.trans (ih (a + 1) st (by omega) (by omega) (by omega)) ?_
        rw [List.drop_eq_nil_of_le (by omega), List.drop_eq_nil_of_le (by omega)]
  rw [Array.length_toList, gen (x.length + 1 - 0) 0 (#[], 0) (Nat.le_refl _) (Nat.le_refl _) (by omega)]
  show 0 + _ = _
  rw [Nat.zero_add]; rfl
/-- one above the last place of a sign -/
def lastN (c : Nat) (l : List Nat) : Nat := (l.reverse.dropWhile (· != c)).length
theorem lastN_app {c : Nat} {a b : List Nat} (hb : c ∉ b) : lastN c (a ++ c :: b) = a.length + 1 := by
  unfold lastN
  rw [List.reverse_append, List.reverse_cons, List.append_assoc, List.dropWhile_append_of_pos]
  · show (List.dropWhile (· != c) (c :: a.reverse)).length = _
    rw [List.dropWhile_cons_of_neg (by simp)]
    simp
  · intro z hz
    have : z ≠ c := fun e => hb (by rw [← e]; exact List.mem_reverse.mp hz)
    simpa using this
theorem lastN_none {c : Nat} {a : List Nat} (hb : c ∉ a) : lastN c a = 0 := by
  unfold lastN
  have gen : ∀ l : List Nat, c ∉ l → l.dropWhile (· != c) = [] := fun l => by
    induction l with
    | nil => intro _; rfl
    | cons z l ih =>
      intro h
      have : z ≠ c := fun e => h (by rw [e]; exact .head _)
      rw [List.dropWhile_cons_of_pos (by simpa using this)]
      exact ih fun w => h (.tail _ w)
  rw [gen _ fun w => hb (List.mem_reverse.mp w)]; rfl
theorem last_split {c : Nat} {l : List Nat} (h : c ∈ l) : ∃ a b, l = a ++ c :: b ∧ c ∉ b := by
  have h' : c ∈ l.reverse := List.mem_reverse.mpr h
  obtain ⟨p, q, e, hp⟩ := List.eq_append_cons_of_mem h'
  refine ⟨q.reverse, p.reverse, ?_, fun z => hp (List.mem_reverse.mp z)⟩
  have := congrArg List.reverse e
  rw [List.reverse_reverse] at this
  rw [this]; simp
theorem rfind_one (x : Str) (c : Nat) : Txt.rfind x ⟨#[c]⟩ = (lastN c x.cps.toList : Nat) - 1 := by
  have hL : x.cps.toList.length = x.length := Array.length_toList
  have at_ : ∀ i, StrLaws.At x ⟨#[c]⟩ x.length i ↔ x.cps.toList[i]? = some c := fun i => by
    unfold StrLaws.At
    rw [subAt_one, decide_eq_true_iff]
    constructor
    · exact fun h => h.2
    · intro h
      have := (List.getElem?_eq_some_iff.mp h).1
      exact ⟨by show i + 1 ≤ _; omega, h⟩
  have lr : Txt.rfind x ⟨#[c]⟩ = match lastOccurrence x ⟨#[c]⟩ 0 x.length with | some i => (i : Int) | none => -1 := rfl
  by_cases hm : c ∈ x.cps.toList
  · obtain ⟨a, b, e, hb⟩ := last_split hm
    rcases StrLaws.last_spec x ⟨#[c]⟩ with ⟨_, h2⟩ | ⟨i, h1, h2, h3⟩
    · obtain ⟨i, hi⟩ := List.getElem?_of_mem hm
      exact absurd ((at_ i).mpr hi) (h2 i)
    · rw [lr, h1, e, lastN_app hb]
      have h2 := (at_ i).mp h2
      have hi : i = a.length := by
        rw [e] at h2
        by_cases l1 : i < a.length
        · exact absurd ((at_ a.length).mpr (by rw [e, List.getElem?_append_right (Nat.le_refl _), Nat.sub_self]; rfl)) (h3 _ l1)
        · rw [List.getElem?_append_right (by omega)] at h2
          cases q : i - a.length with
          | zero => omega
          | succ k =>
            rw [q, List.getElem?_cons_succ] at h2
            exact absurd (List.mem_of_getElem? h2) hb
      rw [hi]
      show ((a.length : Nat) : Int) = _
      omega
  · rw [lastN_none hm]
    rcases StrLaws.last_spec x ⟨#[c]⟩ with ⟨h1, _⟩ | ⟨i, h1, h2, _⟩
    · rw [lr, h1]; rfl
    · exact absurd (List.mem_of_getElem? ((at_ i).mp h2)) hm
def dCountS (d : D) (ds : List D) (O : Om) (Q : QX) : Prop := match d, ds with
  | .str x, [.str y] => sgnK y fun c => Q (.int (x.cps.toList.count c : Nat)) O
  | _, _ => False
theorem m_countS {X : Cx} : MO X "str.count" dCountS := ⟨_, mt_count, fun al H O x d xs ds Q R rel rx r h hq => by
  match d, ds, h with
  | .str a, [.str b], h =>
    obtain ⟨s, rfl, h⟩ := sgnK.ex h
    obtain ⟨v, rfl, rv⟩ := r.one
    cases rx
    cases rv
    refine ⟨_, _, rfl, rfl, ?_⟩
    rw [show Txt.count a ⟨#[s]⟩ = ((a.cps.toList.count s : Nat) : Int) from by
      show (((occurrences a ⟨#[s]⟩ 0 a.length (a.length + 1)).length : Nat) : Int) = _
      rw [occ_count]]
    exact hq _ _ _ _ _ (Stp.refl _ _) rel (.int _) h⟩
def dRfindS (d : D) (ds : List D) (O : Om) (Q : QX) : Prop := match d, ds with
  | .str x, [.str y] => sgnK y fun c => Q (.int ((lastN c x.cps.toList : Nat) - 1)) O
  | _, _ => False
theorem m_rfindS {X : Cx} : MO X "str.rfind" dRfindS := ⟨_, mt_rfind, fun al H O x d xs ds Q R rel rx r h hq => by
  match d, ds, h with
  | .str a, [.str b], h =>
    obtain ⟨s, rfl, h⟩ := sgnK.ex h
    obtain ⟨v, rfl, rv⟩ := r.one
    cases rx
    cases rv
    refine ⟨_, _, rfl, rfl, ?_⟩
    rw [rfind_one]
    exact hq _ _ _ _ _ (Stp.refl _ _) rel (.int _) h⟩
end Px

namespace Px
open PySem PySem.Spec PyProof.Rows L2
/-! ### sorted(set(xs)), xs a list of whole numbers -/
abbrev sOb (w : World) : Obj := { cls := .type "set", dict := none, data := .set #[] 0 (.fresh 0 0 (!w.params.followText "set-order")) }
section
variable {P : Program} {w : World} {A : Around} {E : Value → Shared → Prop} {s : Shared}
theorem set_of_list {la : Addr} {its : Array Value} (ns : List Int) {Q : Value → Shared → Prop} (hd : A.handled = none) (pl : s.heap.IsList la its) (ri : IntsAre its.toList ns) (few : ns.length + 1 < scanBound)
    (k : ∀ (h2 : Heap) (tk c : Nat), SetR w h2 s.heap.objs.size (fun j => decide (j ∈ ns)) c → c ≤ ns.length → (∀ b o, s.heap.get? b = some o → h2.get? b = some o) → Q (.ref s.heap.objs.size) { s with heap := h2, toks := tk }) :
    wpAny (model P w) A (call (.type "set") [.ref la]) Q E s := by
  have size : its.size = ns.length := by rw [← Array.length_toList]; exact IntsAre.length ri
  obtain ⟨_, _, mr⟩ := F.called_set.mro
  have md := F.called_set.made
  have sb := F.called_set.sub
  refine wpAny_call (codeAny_of_tree ?_)
  show wpAny _ _ (callAny (.type "set") _) _ _ _
  refine wpAny_pure ⟨Code.quiet_builtin _ (by decide +kernel), codeAny_builtin F.entry_type_call ?_⟩
  rw [Around.under_plain (weight_type_call_type "set" [.ref la] []) rfl]
  have t1 := F.called_set.notType
  have t2 := F.called_set.canCreate
  have t3 := F.typeCall_set_1 (.ref la)
  repeat (any_goals (first | assumption | wp_step))
  refine codeAny_mono (code_set_led1 (.ref la) (E := E) (Q₁ := fun u s1 => u = .ref s.heap.objs.size ∧ s1 = { s with heap := s.heap.push (sOb w) }) ⟨rfl, rfl⟩) fun r s1 h1 => ?_
  match r, h1 with
  | .error e, h1 => exact h1
  | .ok (.ret u), h1 =>
    obtain ⟨rfl, rfl⟩ := h1
    have g0 : (s.heap.push (sOb w)).get? s.heap.objs.size = some (sOb w) := Heap.get?_push_size _ rfl
    have ty : Shared.TypeIs { s with heap := s.heap.push (sOb w) } (.ref s.heap.objs.size) "set" := ⟨_, g0, rfl⟩
    have i1 := F.called_set.init.lookup
    have i2 := F.called_set.init.bind (.ref s.heap.objs.size)
    repeat (any_goals (first | assumption | wp_step))
    refine codeAny_mono (codeAny_call_builtin (R := wants (fun r s2 => r = .none ∧ ∃ h2 tk c, s2 = { s with heap := h2, toks := tk } ∧ SetR w h2 s.heap.objs.size (fun j => decide (j ∈ ns)) c ∧ c ≤ ns.length ∧
      (∀ b o, s.heap.get? b = some o → h2.get? b = some o)) E) F.called_set.init.plain F.entry_set_init (check_set_init_1 ty ?_)) fun r2 s2 h2 => ?_
    · obtain ⟨⟨oc, od, oda, osl⟩, ol, cl, nl, dl⟩ := pl
      simp only at cl dl
      subst cl dl
      have ol2 : (s.heap.push (sOb w)).get? la = some { cls := .type "list", dict := od, data := .seq its nl, slots := osl } := Heap.get?_push_of_some _ ol
      have n1 := F.sub_list_set
      have n2 := F.sub_list_frozenset
      have n3 : (Value.type "list" == Value.type "dict") = false := by decide
      have lst : (s.heap.push (sOb w)).IsList la its := ⟨_, ol2, rfl, nl, rfl⟩
      unfold Builtin.«set.__init__» noKeywords Builtin.Frozenset.updateFrom
      generalize hPI : pyIter = PI
      wp_walk
      subst hPI
      refine wpAny_pyIter_list lst (wpAny_bind (wpAny_runValue ?_))
      have lt0 : la < s.heap.objs.size := Heap.lt_size ol
      have hd3 : A.in1.in1.in1.handled = none := by simp [hd]
      have sz : (s.heap.push (sOb w)).objs.size = s.heap.objs.size + 1 := Heap.size_push ..
      have ne : la ≠ (s.heap.push (sOb w)).objs.size := by rw [sz]; exact Nat.ne_of_lt (Nat.lt_succ_of_lt lt0)
      have nf : s.heap.objs.size ∉ [(s.heap.push (sOb w)).objs.size, la] := by
        rw [sz]
        intro hc
        rcases List.mem_cons.mp hc with z | hc
        · exact Nat.ne_of_lt (Nat.lt_succ_self _) z
        · exact Nat.lt_irrefl _ (List.mem_singleton.mp hc ▸ lt0)
      have vals : ∀ (i : Nat) (v : Value), its[i]? = some v → ∃ n t, ns[i]? = some n ∧ v = .int n t := fun i v hv => by
        have hi : i < ns.length := by rw [← size]; exact (Array.getElem?_eq_some_iff.mp hv).1
        obtain ⟨t, e⟩ := PyProof.Rows.IntsAre.int_at ri i v (by rw [Array.getElem?_toList]; exact hv)
        have eg : ns.getD i 0 = ns[i] := by rw [List.getD_eq_getElem?_getD, List.getElem?_eq_getElem hi]; rfl
        exact ⟨ns[i], t, List.getElem?_eq_getElem hi, by rw [e, eg]⟩
      refine set_update_ints ((Walks.list hd3 _ la ne its).toS) s.heap.objs.size nf ns size few vals (its.size - 0) 0 _ (by omega) (Nat.zero_le _) ⟨⟨_, Heap.get?_push_size _ rfl, rfl, rfl⟩, (lst.push _)⟩ ⟨0, Nat.le_refl 0, setR_new_at (Heap.get?_push_of_some _ g0)⟩ ?_
      intro s3 c hm hc hS
      obtain ⟨h3, gg, dd, tk, oo⟩ := s3
      have eg : gg = s.gens := hm.gens
      have ed : dd = s.drawn := hm.drawn
      have eo : oo = s.os := hm.os
      subst eg ed eo
      show wpAny _ _ _ _ _ _
      refine wpAny_pure ?_
      show wpAny _ _ (ret Value.none) _ _ _
      refine wpAny_pure ⟨rfl, h3, tk, c, rfl, hS, by omega, fun b o e => ?_⟩
      have hb := Heap.lt_size e
      refine hm.heap b o (fun hc => ?_) (Heap.get?_push_of_some _ (Heap.get?_push_of_some _ e))
      rcases List.mem_cons.mp hc with z | hc
      · exact Nat.ne_of_lt hb z
      · exact Nat.ne_of_lt (Nat.lt_succ_of_lt hb) ((List.mem_singleton.mp hc).trans sz)
    · match r2, h2 with
      | .error e, h2 => exact h2
      | .ok (.ret r), h2 =>
        obtain ⟨rfl, h3, tk, c, rfl, hS, hc, hk⟩ := h2
        repeat (any_goals (first | assumption | wp_step))
        exact k _ _ _ hS hc hk
      | .ok .next, h2 => exact h2.elim
      | .ok .brk, h2 => exact h2.elim
      | .ok .cont, h2 => exact h2.elim
  | .ok .next, h1 => exact h1.elim
  | .ok .brk, h1 => exact h1.elim
  | .ok .cont, h1 => exact h1.elim
end
/-! the rule -/
def tSortSet (K : PySem.W.Frag) (te : TE) : TE := fun σ H Q => te σ H fun v H1 => ∃ (a : Addr) (ns : List Int), v = .ref a ∧ SqL K H1 a (ns.map V.int) ∧ ns.length < 64 ∧
  ∀ (ms : List Int) q, ms.Pairwise (· < ·) → (∀ k, k ∈ ms ↔ k ∈ ns) → ms.length ≤ ns.length → H1 q = none → Q (.ref q) (upd H1 q (.lst (ms.map V.int)))
theorem ints_vals' : ∀ {ns : List Int} {us : List Value}, Vals (ns.map V.int) us → IntsAre us ns
  | [], _, .nil => .nil
  | n :: ns, _, .cons r t => by
    obtain ⟨k, rfl⟩ := r
    exact .cons n k (ints_vals' t)
theorem pe_sortSet {X : Cx} {e : Expr} {te : TE} {p p2 pos pos2 : Pos} (hc : X.calm = true) (hg : Gl X "sorted") (hm : X.mg "sorted" = none) (hg2 : Gl X "set") (hm2 : X.mg "set" = none) (he : PE X e te)
    (hs : starEach [e] X.env = (false, eval e X.env) :: starEach [] X.env := by rfl)
    (hs2 : starEach [.Call (.Name "set" p2) [e] [] pos2] X.env = (false, eval (.Call (.Name "set" p2) [e] [] pos2) X.env) :: starEach [] X.env := by rfl) :
    PE X (.Call (.Name "sorted" p) [.Call (.Name "set" p2) [e] [] pos2] [] pos) (tSortSet X.K te) := by
  refine ⟨fun pins s σ H Q I h => ?_⟩
  refine Call_ (ld_blt I hg hm (by decide +kernel : bootBuiltins "sorted" = some (.builtin "sorted")) ?_)
  refine PyProof.Rows.callWith_builtin1 (PyProof.Rows.args_cons ?_ hs2) hs2 rfl
  refine Call_ (ld_blt I hg2 hm2 (by decide +kernel : bootBuiltins "set" = some (.type "set")) ?_)
  refine PyProof.Rows.callWith_type1 (PyProof.Rows.args_cons (thn (he.run pins s σ H _ I h) fun v s1 ⟨x, H1, I1, r1, q1⟩ => PyProof.Rows.args_nil ?_) hs) hs rfl
  obtain ⟨a, ns, rfl, hq, hlt, q1⟩ := q1
  cases r1
  obtain ⟨its, r, pl, hz⟩ := I1.list hq
  refine set_of_list ns (I1.ok.hd hc) pl.isList (by simpa using ints_vals' r) (by unfold scanBound; omega) fun h2 tk c hS hle hk => ?_
  refine PyProof.Rows.args_nil ?_
  have I2 : Inv X pins σ H1 { s1 with heap := h2, toks := tk } := I1.kept hk
  obtain ⟨s2, hs2⟩ : ∃ s2 : Shared, s2 = { s1 with heap := h2, toks := tk } := ⟨_, rfl⟩
  rw [← hs2] at I2 ⊢
  have hS : SetR X.w s2.heap s1.heap.objs.size (fun j => decide (j ∈ ns)) c := by rw [hs2]; exact hS
  refine sorted_set hS (I2.ok.hd hc) (by omega) fun s' p out c ms k g o hp hgt hi hsr hmm hl => ?_
  have hlen : (ms.map V.int).length ≤ sizeLine := by rw [List.length_map, hl, sizeLine_eq]; omega
  have hn : H1 p = none := I2.hok.fresh hp
  have J : Inv X pins σ (upd H1 p (.lst (ms.map V.int))) { s2 with heap := s'.heap, gens := s'.gens, drawn := s'.drawn, toks := s'.toks } :=
    I2.call (ch := []) (Un.laid k hp hn) (I2.hok.laid k hp ⟨hlen, out.toList, c, vals_of_ints hi, hgt⟩) (by rw [g]; exact I2.bare) (fun _ z => nomatch z)
  have es : s' = { s2 with heap := s'.heap, gens := s'.gens, drawn := s'.drawn, toks := s'.toks } := by
    cases s'
    cases s2
    cases o
    rfl
  rw [es]
  exact ⟨.ref p, _, J, rfl, q1 ms p hsr (fun k => by rw [hmm k]; exact decide_eq_true_iff) (by omega) hn⟩
def dSortSet (O : Om) (d : D) (Q : List D → Prop) : Prop := optK (lstD O d) fun ds => optK (D.ints ds) fun ns => ns.length < 64 ∧ ∀ ms : List Int, ms.Pairwise (· < ·) → (∀ k, k ∈ ms ↔ k ∈ ns) → ms.length ≤ ns.length → Q (ms.map .int)
def xSortSet (a : TX) : TX := fun G O Q E => a G O (fun d O1 => dSortSet O1 d fun ds => Q (.lst ds) O1) E
theorem rd_sortSet {K : PySem.W.Frag} {W : WX} {te : TE} {t : TX} (h : RdE K W te t) : RdE K W (tSortSet K te) (xSortSet t) := by
  intro al H σ G O Q E R rel env q hq he
  refine h al H σ G O _ E _ rel env q (fun al1 H1 O1 v d s1 rel1 r1 q1 => ?_) he
  obtain ⟨ds, e1, q1⟩ := optK.ex q1
  obtain ⟨ns, e2, h64, q1⟩ := optK.ex q1
  obtain ⟨a, xs, rfl, h1, h2, h3⟩ := lstD_rp rel1 r1 e1
  obtain rfl := h2.intsI e2
  exact ⟨a, ns, rfl, h1, h64, fun ms p hp hm hl hn => hq _ _ _ _ _ (s1.trans (stp_new rel1.live hn)) (rel1.new hn) (new_lst rel1 hn (ints_vals ms) (by rw [List.length_map, sizeLine_eq]; omega)) (q1 ms hp hm hl)⟩
theorem px_sortSet {X : Cx} {W : WX} {e : Expr} {p p2 pos pos2 : Pos} {t : TX} (hm : X.mg "sorted" = none) (hm2 : X.mg "set" = none) (h : PX X W e t) (hc : X.calm = true := by rfl) (hg : Gl X "sorted" := by rfl) (hg2 : Gl X "set" := by rfl)
    (hs : starEach [e] X.env = (false, eval e X.env) :: starEach [] X.env := by rfl)
    (hs2 : starEach [.Call (.Name "set" p2) [e] [] pos2] X.env = (false, eval (.Call (.Name "set" p2) [e] [] pos2) X.env) :: starEach [] X.env := by rfl) :
    PX X W (.Call (.Name "sorted" p) [.Call (.Name "set" p2) [e] [] pos2] [] pos) (xSortSet t) := let ⟨_, p, q⟩ := h; ⟨_, pe_sortSet hc hg hm hg2 hm2 p hs hs2, rd_sortSet q⟩
end Px

namespace Px
open PySem PySem.Spec PyProof.Rows L2
/-! ### l.count(x), texts -/
def eqT (x : Str) (v : Value) : Bool := match v with
  | .str y _ => y == x
  | _ => false
theorem vals_cnt {x : Str} : ∀ {l : List Str} {us : List Value}, Vals (l.map V.str) us → (∀ u ∈ us, ∃ y t, u = Value.str y t) ∧ us.countP (eqT x) = l.count x
  | [], _, h => by cases h; exact ⟨(fun _ h => nomatch h), rfl⟩
  | y :: l, _, h => by
    cases h with
    | cons h1 h2 =>
      obtain ⟨a, b⟩ := vals_cnt (x := x) h2
      obtain ⟨t, rfl⟩ := h1
      refine ⟨fun u hu => ?_, ?_⟩
      · rcases List.mem_cons.mp hu with rfl | hu
        · exact ⟨_, _, rfl⟩
        · exact a u hu
      · rw [List.countP_cons, b, List.count_cons]
        rfl
def rCntT (K : PySem.W.Frag) : V → List V → Hp → VK → Prop := fun v xs H Q => ∃ (p : Addr) (x : Str) (l : List Str), v = .ref p ∧ xs = [.str x] ∧ SqL K H p (l.map V.str) ∧ Q (.int (l.count x : Nat)) H
section
variable {X : Cx}
theorem mt_countT : MtR X "list.count" (rCntT X.K) := by
  intro pins s σ H x xs v us Q I rx rxs h
  obtain ⟨p, y, l, rfl, rfl, hs, q⟩ := h
  cases rx
  obtain ⟨u, rfl, ru⟩ := rxs.one
  obtain ⟨t, rfl⟩ := ru
  obtain ⟨its, rv, ⟨⟨cls, dd, data, sl⟩, n, ho, hc, hdn, hd⟩, hlen⟩ := I.list hs
  simp only at hc hd
  subst hc hd
  obtain ⟨hi, hcn⟩ := vals_cnt (x := y) rv
  refine call_meets PySem.F.slot_list_count ⟨_, ho, rfl⟩ PySem.F.entry_list_count (PySem.F.args_list_count_2 _ _)
    (SeqAt.list_countAt p its.toArray n dd sl (.str y t) (eqT y)) ⟨ho, fun z hz => ?_, ?_⟩
  · obtain ⟨b, t2, rfl⟩ := hi z (by simpa using hz)
    exact SeqAt.EqAt.str_str b t2 y t
  have ec : its.toArray.toList.countP (eqT y) = l.count y := by rw [List.toList_toArray]; exact hcn
  refine ⟨.int (l.count y : Nat), H, I.tok _, ⟨s.toks, ?_⟩, q⟩
  show Value.int ((its.toArray.toList.countP (eqT y) : Nat) : Int) s.toks = Value.int ((l.count y : Nat) : Int) s.toks
  rw [ec]
end
def dCountT (d : D) (ds : List D) (O : Om) (Q : QX) : Prop := match ds with
  | [.str x] => optK (lstD O d) fun es => optK (D.strs es) fun l => Q (.int (l.count x : Nat)) O
  | _ => False
theorem m_countT {X : Cx} : MO X "list.count" dCountT := ⟨_, mt_countT, fun al H O x d xs ds Q R rel rx rxs h hq => by
  match ds, h with
  | [.str y], h =>
    obtain ⟨es, e1, h⟩ := optK.ex h
    obtain ⟨l, e2, h⟩ := optK.ex h
    obtain ⟨v, rfl, rv⟩ := rxs.one
    cases rv
    obtain ⟨a, ys, rfl, hs, hr, _⟩ := lstD_rp rel rx e1
    obtain ⟨rfl, _⟩ := RpA.strsI hr e2
    exact ⟨a, y, l, rfl, rfl, hs, hq _ _ _ _ _ (Stp.refl _ _) rel (.int _) h⟩⟩
/-! ### l.index(x), any data -/
def dIndexD (d : D) (ds : List D) (O : Om) (Q : QX) : Prop := match ds with
  | [x] => optK (lstD O d) fun es => D.oks 19 es = true ∧ D.ok 20 x = true ∧ optK (es.findIdx? fun z => D.eq z x) fun j => Q (.int (j : Nat)) O
  | _ => False
theorem pys_get {es : List D} {ps : List PyData} (h : D.pys es = some ps) {j : Nat} {d : D} (hd : es[j]? = some d) : ∃ p, d.py = some p ∧ ps[j]? = some p := by
  induction es generalizing ps j with
  | nil => simp at hd
  | cons e es ih =>
    simp only [D.pys] at h
    split at h
    · rename_i p ps' e1 e2
      cases h
      cases j with
      | zero => simp at hd; subst hd; exact ⟨p, e1, rfl⟩
      | succ j => obtain ⟨q, a, b⟩ := ih e2 (by simpa using hd); exact ⟨q, a, by simpa using b⟩
    · cases h
theorem pys_len {es : List D} {ps : List PyData} (h : D.pys es = some ps) : ps.length = es.length := by
  induction es generalizing ps with
  | nil => cases h; rfl
  | cons e es ih =>
    simp only [D.pys] at h
    split at h
    · rename_i p ps' e1 e2
      cases h
      rw [List.length_cons, List.length_cons, ih e2]
    · cases h
theorem m_indexD {X : Cx} (hr : Un0 X.A) : MO X "list.index" dIndexD := ⟨_, mt_indexD (by have := hr.le; omega), fun al H O x d xs ds Q R rel rx rxs h hq => by
  match ds, h with
  | [y], h =>
    obtain ⟨es, e1, hoe, hoy, h⟩ := optK.ex h
    obtain ⟨j, e3, h⟩ := optK.ex h
    obtain ⟨v, rfl, rv⟩ := rxs.one
    obtain ⟨a, ys, rfl, hs, hra, _⟩ := lstD_rp rel rx e1
    obtain ⟨p, p1, p2⟩ := D.ok_py 20 y (by omega) hoy
    obtain ⟨l, l1, l2⟩ := D.ok_py 20 (.lst es) (by omega) hoe
    simp only [D.py, Option.map_eq_some_iff] at l1
    obtain ⟨ps, q1, rfl⟩ := l1
    have z1 := RpA.dp es ys ps hra q1
    have z2 := Rp.dp y v p rv p1
    obtain ⟨hj, hj1, hj2⟩ := List.findIdx?_eq_some_iff_getElem.mp e3
    obtain ⟨pj, g1, g2⟩ := pys_get q1 (List.getElem?_eq_getElem hj)
    refine ⟨a, v, p, ps, j, pj, rfl, rfl, .lst hs z1.1, z2.1, shaped_ok (d := .lst es) hoe (by simp [D.py, q1]) (by simpa [PyData.canLay0] using z1.2), shaped_ok hoy p1 z2.2, g2, by rw [D.py_eqv _ _ _ _ g1 p1]; exact hj1, fun m z' hm hz => ?_, hq _ _ _ _ _ (Stp.refl _ _) rel (.int _) h⟩
    have hml : m < es.length := by omega
    obtain ⟨pm, g3, g4⟩ := pys_get q1 (List.getElem?_eq_getElem hml)
    rw [hz] at g4
    cases g4
    rw [D.py_eqv _ _ _ _ g3 p1]
    have := hj2 m hm
    simpa using this⟩
end Px

namespace Px
open PySem PySem.Spec PyProof.Rows L2
/-! ### lambda row: row[0] -/
section
variable {P : Program} {w : World} {A : Around} {s : Shared}
abbrev rowBody (p1 p2 p3 : Pos) (j : Nat) : Expr := .Subscript (.Name "row" p1) (.Constant (.int 0) j p2) p3
abbrev rowArgs (pa : Pos) : Arguments := { posonlyargs := [], args := [{ arg := "row", annotation := none, pos := pa }], vararg := none, kwonlyargs := [], kw_defaults := [], kwarg := none, defaults := [] }
abbrev rowScope : Scope := { kind := .function, names := [("row", .local)], isGenerator := false, isCoroutine := false, more := [] }
theorem lam_turn {f c' ta : Addr} {q : Str} {pa p1 p2 p3 : Pos} {j : Nat} {pm ctv : Value} {its : Array Value} {n : Int} {tk : Tok} (hd : A.depth < recursionLimit)
    (of : s.heap.get? f = some (PySem.W.kla_obj "<lambda>" q (rowArgs pa) (rowBody p1 p2 p3 j) rowScope [] pm c' ctv))
    (hc : ∃ (oc : Obj) (vs : Array Value) (t : Tok), s.heap.get? c' = some oc ∧ oc.data = .fields vs ∧ vs[1]? = some (.str q t))
    (lim : s.heap.NoLimit) (pl : IsTup s.heap ta its) (h0 : its[0]? = some (.int n tk)) :
    wpAny (model P w) A (call (.ref f) [.ref ta]) (PySem.W.KeyPure (.int n) s) (fun _ _ => False) s := by
  obtain ⟨oc, vs, t, hoc, hdc, hvc⟩ := hc
  refine wpAny_call ?_
  refine PySem.W.kla_callFunE hd of rfl rfl rfl rfl ⟨c', oc, vs, t, rfl, hoc, hdc, hvc⟩ ?_
  rw [show bindArgs (PySem.W.kla_fn "<lambda>" q (rowArgs pa) (rowBody p1 p2 p3 j) rowScope [] pm (.ref c') ctv) ⟨[.ref ta], []⟩ = pure [(("row" : Str), Value.ref ta)] from rfl]
  refine wpAny_pure (wpAny_newFunctionEnv (fun y hy => ?_) (fun y hy => ?_) (fun h₁ hns hsb => ⟨lim.fresh _ hsb, ?_⟩) rfl)
  · rw [List.mem_singleton.mp hy]; intro z; cases z
  · rw [List.mem_singleton.mp hy]; rfl
  have kp : ∀ b o, s.heap.get? b = some o → h₁.get? b = some o := fun b o e => hsb.extBut b o (Nat.ne_of_lt (Heap.lt_size e)) (Heap.get?_push_of_some _ e)
  refine PySem.W.kla_codeExpr ?_
  refine Subscript_ (wpAny_Name (wpAny_loadName_local rfl rfl hns (by rfl) ?_) (by decide))
  refine wpAny_Constant_int ?_
  have pl1 : IsTup h₁ ta its := by
    obtain ⟨o, ho, r⟩ := pl
    exact ⟨o, kp _ _ ho, r⟩
  have hsz : 0 < its.size := (Array.getElem?_eq_some_iff.mp h0).1
  have hix : seqIndex? (0 : Int) its.size = some 0 := seqIndex_of (by decide) (by omega)
  exact subscriptTail_builtinR (x := .int n tk) pl1.typeIs slot_tuple_getitem.lookup
    (getItem_tuple (j := 0) (Q := fun r s' => r = Value.int n tk ∧ PySem.W.KeyPure (.int n) s r s') pl1 (by decide) (by decide) hix h0 ⟨rfl, h₁, _, rfl, kp, .int n tk⟩) rfl
end
/-! ### the lambda is made: what is written -/
section
variable {X : Cx} {pins : List (Addr × Obj)} {σ : L2.St} {H : Hp} {s : Shared}
theorem lam_new {c P : Addr} {params : Arguments} {body : Expr} {scope : Scope} {pos : Pos} {E : Value → Shared → Prop} {Q : Value → Shared → Prop} (I : Inv X pins σ H s) (TB : LamX.TabB X.base X.mg c P) (hcode : X.env.code = .ref c)
    (hT : LamX.TabS H P (X.env.qual ++ "<lambda>")) (hdef : defaultsOf params X.env = ([], [])) (hfree : ∀ y ∈ scope.names, y.2 ≠ .free)
    (h : ∀ (f c' : Addr) (pm ctv : Value) (H1 : Hp) (s' : Shared), Inv X pins σ H1 s' → (∀ b o, s.heap.get? b = some o → b ≠ P → s'.heap.get? b = some o) →
      (H1 = H ∨ ∃ ps more, H P = some (.tbl ps) ∧ H c' = none ∧ H1 = upd (upd H c' (LamX.CodeO c' (X.env.qual ++ "<lambda>"))) P (.tbl (ps ++ more)) ∧ TriplesOk (ps ++ more).toList ∧ ∀ p' cv, codeAmong p' (ps ++ more).toList = some cv → codeAmong p' ps.toList = some cv ∨ cv = .ref c') →
      s'.heap.get? f = some (PySem.W.kla_obj "<lambda>" (X.env.qual ++ "<lambda>") params body scope (cloFrom X.env.cells scope.names []) pm c' ctv) → H1 f = none →
      (∃ (oc : Obj) (vs : Array Value) (t : Tok), s'.heap.get? c' = some oc ∧ oc.data = .fields vs ∧ vs[1]? = some (.str (X.env.qual ++ "<lambda>") t)) → Q (.ref f) s') :
    wpAny (model X.prog X.w) X.A (eval (.Lambda params body scope pos) X.env) Q E s := by
  have hm : (P, X.env.qual ++ "<lambda>") ∈ [(P, X.env.qual ++ ("<lambda>" : Str))] := .head _
  obtain ⟨ps, hP, ht, ha⟩ := hT
  refine PySem.W.kla_eval hdef ?_
  have clo : closureFor scope X.env = pure (cloFrom X.env.cells scope.names []) := closure_ok fun y hy z => absurd z (hfree y hy)
  have bP := TB.bm.keeps I.bk
  have tab : s.heap.get? P = some { cls := .none, data := .fields ps } := I.hok P _ hP
  have gm := I.mod.glob.keeps I.bk
  have cd := TB.code.keeps I.bk
  cases hcm : codeAmong pos ps.toList with
  | some cv =>
    obtain ⟨c', rfl, hco⟩ := ha pos cv hcm
    refine PySem.W.kla_makeFunctionHit (mg := X.mg) (c := c) (P := P) (ps := ps) clo I.ok.glob gm hcode cd tab ht hcm bP fun ctv h2 tk hx hsz => ?_
    have k2 : ∀ b o, s.heap.get? b = some o → (h2.push (PySem.W.kla_obj "<lambda>" (X.env.qual ++ "<lambda>") params body scope (cloFrom X.env.cells scope.names []) ((X.mg "__name__").getD .none) c' ctv)).get? b = some o := fun b o e => Heap.get?_push_of_some _ (hx b o e)
    obtain ⟨⟨oc, vs, t, e1, e2, e3⟩, _, _⟩ := I.hok c' _ hco
    exact h h2.objs.size c' _ ctv H _ (I.kept k2) (fun b o e _ => k2 b o e) (.inl rfl) (Heap.get?_push_size _ rfl) (I.hok.fresh hsz) ⟨oc, vs, t, k2 _ _ e1, e2, e3⟩
  | none =>
    refine PySem.W.kla_makeFunction (mg := X.mg) (c := c) (P := P) (ps := ps) clo I.ok.glob gm hcode cd tab ht hcm TB.gP bP fun c' ctv h2 tk hx hge hlt hrec htb => ?_
    obtain ⟨c2, oc, vs, t, e2, hoc, hdd, hv⟩ := hrec
    cases e2
    have hsz : s.heap.objs.size ≤ h2.objs.size := Nat.le_trans hge (Nat.le_of_lt hlt)
    have nC : H c' = none := I.hok.fresh hge
    have nPc : P ≠ c' := fun z => by rw [z, nC] at hP; cases hP
    have nf1 : h2.objs.size ≠ c' := Nat.ne_of_gt hlt
    have nf2 : h2.objs.size ≠ P := Nat.ne_of_gt (Nat.lt_of_lt_of_le (Heap.lt_size tab) hsz)
    have J := LamX.inv_table (t' := tk) (more := #[rawInt pos.line, rawInt pos.col, .ref c']) (h' := h2.push (PySem.W.kla_obj "<lambda>" (X.env.qual ++ "<lambda>") params body scope (cloFrom X.env.cells scope.names []) ((X.mg "__name__").getD .none) c' ctv)) (q := X.env.qual ++ "<lambda>") I hP
      (fun b o hb e => Heap.get?_push_of_some _ (hx b o hb e)) (Heap.get?_push_of_some _ htb) hge ⟨oc, vs, t, Heap.get?_push_of_some _ hoc, hdd, hv⟩
    have e0 : upd (upd H P (.tbl (ps ++ #[rawInt pos.line, rawInt pos.col, .ref c']))) c' (LamX.CodeO c' (X.env.qual ++ "<lambda>")) = upd (upd H c' (LamX.CodeO c' (X.env.qual ++ "<lambda>"))) P (.tbl (ps ++ #[rawInt pos.line, rawInt pos.col, .ref c'])) := by
      funext b
      by_cases h1 : b = c'
      · subst h1
        rw [upd_same, upd_ne (Ne.symm nPc), upd_same]
      · rw [upd_ne h1]
        by_cases h3 : b = P
        · subst h3; rw [upd_same, upd_same]
        · rw [upd_ne h3, upd_ne h3, upd_ne h1]
    rw [e0] at J
    have eL : (ps ++ #[rawInt pos.line, rawInt pos.col, .ref c']).toList = ps.toList ++ [rawInt pos.line, rawInt pos.col, .ref c'] := by simp
    refine h h2.objs.size c' _ ctv _ _ J (fun b o e hb => Heap.get?_push_of_some _ (hx b o hb e)) (.inr ⟨ps, _, hP, nC, rfl, by rw [eL]; exact PySem.TriplesOk_snoc _ _ _ _ ht, fun p' cv hcv => ?_⟩) (Heap.get?_push_size _ rfl) ?_ ⟨oc, vs, t, Heap.get?_push_of_some _ hoc, hdd, hv⟩
    · rw [eL] at hcv
      exact LamX.among_app _ ht hcv
    · rw [upd_ne nf2, upd_ne nf1]
      exact I.hok.fresh hsz
end
end Px

namespace Px
open PySem PySem.Spec PyProof.Rows L2
def tSortLam (K : PySem.W.Frag) (P : Addr) (q : Str) (te : TE) : TE := fun σ H Q => te σ H fun v H1 => ∃ (a : Addr) (xs : List V) (k : V → Int), v = .ref a ∧ SqL K H1 a xs ∧ LamX.TabS H1 P q ∧
  (∀ x ∈ xs, ∃ (t : Addr) (ys : List V), x = .ref t ∧ SqT K H1 t (.int (k x) :: ys)) ∧
  ∀ (c' : Addr) (H2 : Hp), (H2 = H1 ∨ ∃ ps more, H1 P = some (.tbl ps) ∧ H1 c' = none ∧ H2 = upd (upd H1 c' (LamX.CodeO c' q)) P (.tbl (ps ++ more)) ∧ TriplesOk (ps ++ more).toList ∧ ∀ p' cv, codeAmong p' (ps ++ more).toList = some cv → codeAmong p' ps.toList = some cv ∨ cv = .ref c') →
    ∀ (zs : List V) (p : Addr), zs.Perm xs → zs.Pairwise (fun a b => k a ≤ k b) → H2 p = none → Q (.ref p) (upd H2 p (.lst zs))
theorem sql_ne {X : Cx} {pins : List (Addr × Obj)} {σ : L2.St} {H : Hp} {s : Shared} (I : Inv X pins σ H s) {a P : Addr} {xs : List V} {ps : Array Value} (h : SqL X.K H a xs) (hP : H P = some (.tbl ps)) : a ≠ P := fun z => by
  rw [← z] at hP
  rcases h with (h | ⟨o, h⟩) | ⟨o, its, n, h, _⟩
  · rw [h] at hP; cases hP
  · rw [h] at hP; cases hP
  · have := (I.bs a o (I.mod.kin a o h)).2
    rw [this] at hP; cases hP
theorem sqt_ne {X : Cx} {pins : List (Addr × Obj)} {σ : L2.St} {H : Hp} {s : Shared} (I : Inv X pins σ H s) {a P : Addr} {xs : List V} {ps : Array Value} (h : SqT X.K H a xs) (hP : H P = some (.tbl ps)) : a ≠ P := fun z => by
  rw [← z] at hP
  rcases h with (h | ⟨o, h⟩) | ⟨o, its, n, h, _⟩
  · rw [h] at hP; cases hP
  · rw [h] at hP; cases hP
  · have := (I.bs a o (I.mod.kin a o h)).2
    rw [this] at hP; cases hP
def RowIs (s : Shared) (k : V → Int) (v : Value) (x : V) : Prop := ∃ (t : Addr) (its : Array Value) (tk : Tok), v = .ref t ∧ x = .ref t ∧ IsTup s.heap t its ∧ its[0]? = some (.int (k x) tk)
theorem rows_each {X : Cx} {pins : List (Addr × Obj)} {σ : L2.St} {H : Hp} {s s2 : Shared} (I : Inv X pins σ H s) {P : Addr} {ps : Array Value} {k : V → Int} (hP : H P = some (.tbl ps)) (kp : ∀ b o, s.heap.get? b = some o → b ≠ P → s2.heap.get? b = some o) :
    ∀ {xs : List V} {us : List Value}, Vals xs us → (∀ x ∈ xs, ∃ (t : Addr) (ys : List V), x = .ref t ∧ SqT X.K H t (.int (k x) :: ys)) → PySem.W.EachIs (RowIs s2 k) us xs
  | [], _, .nil, _ => .nil
  | x :: xs, u :: us, .cons r t, h => by
    refine .cons ?_ (rows_each I hP kp t fun z hz => h z (.tail _ hz))
    obtain ⟨ta, ys, e, hq⟩ := h x (.head _)
    rw [e] at r
    have r : u = Value.ref ta := r
    have hne := sqt_ne I hq hP
    obtain ⟨its, rv, ⟨o, ho, hr⟩, hz⟩ := I.tuple hq
    cases rv with
    | cons r1 r2 =>
      obtain ⟨tk, rfl⟩ := r1
      exact ⟨ta, _, tk, r, e, ⟨o, kp _ _ ho hne, hr⟩, rfl⟩
theorem each_vals {s : Shared} {k : V → Int} : ∀ {us : List Value} {xs : List V}, PySem.W.EachIs (RowIs s k) us xs → Vals xs us
  | _, _, .nil => .nil
  | _, _, .cons h t => by
    obtain ⟨ta, its, tk, e1, e2, _, _⟩ := h
    refine .cons ?_ (each_vals t)
    rw [e1, e2]; rfl
theorem pe_sortLam {X : Cx} {e : Expr} {te : TE} {c P : Addr} {pa p p1 p2 p3 pl kp pos : Pos} {j : Nat} (hu : X.A.units + 64 < cLine) (hdp : X.A.depth < recursionLimit) (TB : LamX.TabB X.base X.mg c P) (hcode : X.env.code = .ref c) (hg : Gl X "sorted") (hm : X.mg "sorted" = none) (he : PE X e te)
    (hdef : defaultsOf (rowArgs pa) X.env = ([], []) := by rfl)
    (hs : starEach [e] X.env = (false, eval e X.env) :: starEach [] X.env := by rfl)
    (he2 : backTo pos (starEach [e] X.env) = (false, eval e X.env) :: backTo pos (starEach [] X.env) := by rfl) (hpl : (backTo pos (starEach [e] X.env)).any (·.1) = false := by rfl) :
    PE X (.Call (.Name "sorted" p) [e] [⟨some "key", .Lambda (rowArgs pa) (rowBody p1 p2 p3 j) rowScope pl, kp⟩] pos) (tSortLam X.K P (X.env.qual ++ "<lambda>") te) := by
  refine ⟨fun pins s σ H Q I h => ?_⟩
  refine wpAny_Call_Name_kw (ld_blt I hg hm (by decide +kernel : bootBuiltins "sorted" = some (.builtin "sorted")) ?_)
  refine PyProof.Rows.callWith_kw (thn ((pa_cons he pa_nil hs).run pos pins s σ H (fun vs H1 => match vs with
    | [v] => ∃ (a : Addr) (xs : List V) (k : V → Int), v = .ref a ∧ SqL X.K H1 a xs ∧ LamX.TabS H1 P (X.env.qual ++ "<lambda>") ∧
      (∀ x ∈ xs, ∃ (t : Addr) (ys : List V), x = .ref t ∧ SqT X.K H1 t (.int (k x) :: ys)) ∧
      ∀ (c' : Addr) (H2 : Hp), (H2 = H1 ∨ ∃ ps more, H1 P = some (.tbl ps) ∧ H1 c' = none ∧ H2 = upd (upd H1 c' (LamX.CodeO c' (X.env.qual ++ "<lambda>"))) P (.tbl (ps ++ more)) ∧ TriplesOk (ps ++ more).toList ∧ ∀ p' cv, codeAmong p' (ps ++ more).toList = some cv → codeAmong p' ps.toList = some cv ∨ cv = .ref c') →
        ∀ (zs : List V) (p : Addr), zs.Perm xs → zs.Pairwise (fun a b => k a ≤ k b) → H2 p = none → Q (.ref p) (upd H2 p (.lst zs))
    | _ => False) I h) fun us s1 ⟨vs, H1, I1, r1, q1⟩ => ?_) he2 hpl (by rfl) (by rfl)
  match vs, r1, q1 with
  | [v], r1, q1 =>
  obtain ⟨a, xs, k, rfl, hq, hT, hx, q1⟩ := q1
  obtain rfl := Vals.ref1 r1
  obtain ⟨its, rv, pla, hz⟩ := I1.list hq
  obtain ⟨ol, hol, hlr⟩ := pla.isList
  obtain ⟨ps0, hP0, _⟩ := id hT
  have hne := sql_ne I1 hq hP0
  show wpAny _ _ (evalAll ((do let v ← eval (.Lambda (rowArgs pa) (rowBody p1 p2 p3 j) rowScope pl) X.env; standAt pos; pure v) :: [])) _ _ s1
  refine wpAny_evalAll_cons (wpAny_bind (lam_new I1 TB hcode hT hdef (fun y hy => ?_) fun f c' pm ctv H2 s2 I2 kp hH2 hf hHf hc' => wpAny_bind (wpAny_standAt (wpAny_pure (wpAny_evalAll_nil ?_)))))
  · rw [List.mem_singleton.mp hy]; intro z; cases z
  rw [show cloFrom X.env.cells rowScope.names [] = [] from rfl] at hf
  have ea := rows_each I1 hP0 kp rv hx
  show wpAny (model X.prog X.w) X.A (call (.builtin "sorted") [.ref a] [(Str.ofString "key", .ref f)]) _ _ _
  refine PySem.W.sorted_key_data (b := false) (fun x => PyData.int (k x)) (R := RowIs s2 k) (bs := xs) (vs := its) ⟨ol, kp _ _ hol hne, hlr⟩ ea ?_ (.inr ?_) hz ?_ (PyProof.Rows.ksk_s1 _ _) (fun _ => PyProof.Rows.ksk_l1 _ _) (fun _ => PyProof.Rows.ksk_t1 _ _) ?_ ?_
  · intro d hd d' hd'
    obtain ⟨_, _, rfl⟩ := List.mem_map.mp hd
    obtain ⟨_, _, rfl⟩ := List.mem_map.mp hd'
    rfl
  · intro d hd
    obtain ⟨_, _, rfl⟩ := List.mem_map.mp hd
    exact ⟨(fun z => nomatch z), fun _ z => nomatch z⟩
  · intro x _
    show X.A.units + 2 + 0 < cLine
    omega
  · intro v x hR _ h3 tk3 kp3
    obtain ⟨ta, its2, tk, rfl, _, ⟨o2, ho2, hr2⟩, h0⟩ := hR
    obtain ⟨oc, vs2, t2, e1, e2, e3⟩ := hc'
    exact lam_turn (s := { s2 with heap := h3, toks := tk3 }) (A := X.A.in1.in1) (by show X.A.depth < _; omega) (kp3 _ _ hf) ⟨oc, vs2, t2, kp3 _ _ e1, e2, e3⟩ (I2.nolimit.keeps kp3) ⟨o2, kp3 _ _ ho2, hr2⟩ h0
  · intro out cc h3 tk3 kp3 hfr hget hlen hout
    have hperm := List.mergeSort_perm xs (PySem.W.dataLe false fun x => PyData.int (k x))
    have hpw : (xs.mergeSort (PySem.W.dataLe false fun x => PyData.int (k x))).Pairwise (fun a b => k a ≤ k b) := by
      rw [PySem.W.dataLe_int]
      refine List.Pairwise.imp (fun h => of_decide_eq_true h) (List.pairwise_mergeSort (fun a b c h1 h2 => ?_) (fun a b => ?_) xs)
      · have := of_decide_eq_true h1; have := of_decide_eq_true h2; exact decide_eq_true (by omega)
      · by_cases h : k a ≤ k b
        · rw [decide_eq_true h]; rfl
        · rw [decide_eq_true (show k b ≤ k a by omega)]; simp
    generalize xs.mergeSort (PySem.W.dataLe false fun x => PyData.int (k x)) = zs at hperm hpw hout
    have hzl : zs.length ≤ sizeLine := by rw [hperm.length_eq]; exact hz
    have J : Inv X pins σ (upd H2 (s2.heap.objs.size + 1) (.lst zs)) { s2 with heap := h3, toks := tk3 } :=
      I2.laid (t' := tk3) kp3 (Nat.le_succ _) ⟨hzl, out, cc, each_vals hout, hget⟩
    exact ⟨.ref _, _, J, rfl, q1 c' H2 hH2 zs _ hperm hpw (I2.hok.fresh (Nat.le_succ _))⟩
end Px

namespace Px
open PySem PySem.Spec PyProof.Rows L2
/-! ### a def whose code object is known -/
theorem fnx_ofL {P : Program} {w : World} {K : PySem.W.Frag} {mg : Str → Option Value} {base : Heap} {x qual : Str} {st : Stmt} {f c : Addr} {fd : FuncData} {N ps : List Str} {k : Nat} {T : SpX} (F : Fun K x qual st f fd) (hcode : fd.code = .ref c) (S : FnScope N ps (defScope st)) (len : ∀ ds O Q E, T ds O Q E → ds.length = ps.length) (t : TSX)
    (hb : ∀ (A : Around) (outer : List Env) (s : Shared) (H : Hp) (E : XK), Room k (A.deeper (envOfC qual (defScope st) s.heap.objs.size f (.ref c))) → PSsX (cxOf (L2.CX P w) P w K mg base N qual (defScope st) f (.ref c) A outer s H E) (W0 E) (defBody st) t)
    (hp : ∀ ds O Q E, T ds O Q E → OmCl O → t { nx := fun _ O' => Rt O.length Q .non O', rt := Rt O.length Q, ex := fun x _ O' => E x O' } (startG N ds) O) : FnX P w K mg base (k + 1) f fd ps T := by
  obtain ⟨oc, od, kV, doc, pm, an, cdv, ct, osl, rfl, lk, hcd⟩ := F.ex
  have hcd2 : cdv = .ref c := hcode
  subst hcd2
  refine fn_of lk hcd S (fun vs H Q E h => ?_) fun A outer s H vs Q E hr h => ?_
  · obtain ⟨al, O, ds, Qx, Ex, rel, r, h, _⟩ := h
    rw [r.length]
    exact len _ _ _ _ h
  · obtain ⟨al, O, ds, Qx, Ex, rel, r, h, hq, he⟩ := h
    obtain ⟨ts, p1, p2⟩ := hb A outer s H E hr
    have fin : ∀ al' H' O' v d, Stp al H al' H' → Rel K al' H' O' → Rp K al' H' v d → Rt O.length Qx d O' → Q v H' := fun al' H' O' v d s' rel' r' q' => by
      rcases q' with q' | ⟨O1, G, rfl, hn, hc, hO, q'⟩
      · exact hq al' H' O' v d s' rel' r' q'
      · rw [← hn] at hc
        exact hq (al'.cut O1.length) H' O1 v d (s'.trunc (by rw [hn, rel.len])) (rel'.trunc hO) (r'.trunc _ hc) q'
    refine ⟨ts, p1, p2 al H (L2.start N vs) (startG N ds) O _ _ rel (env_start r) (hp ds O Qx Ex h rel.cl) ⟨?_, ?_, ?_, ?_, ?_⟩⟩
    · exact fun al' H' O' σ' G' s' rel' _ q' => fin al' H' O' .non .non s' rel' .non q'
    · exact fin
    · exact fun _ _ _ _ _ _ _ _ z => z.elim
    · exact fun _ _ _ _ _ _ _ _ z => z.elim
    · exact fun al' H' O' σ' G' x cls dd s' rel' _ r' q' => he al' H' O' x cls dd s' rel' r' q'
/-! ### sorted(rows, key=lambda row: row[0]) -/
def k0 (d : D) : Int := match d with
  | .tup (.int n :: _) => n
  | _ => 0
def xSortLam (q : Str) (t : TX) : TX := fun G O Q E => t G O (fun d O1 => (∃ kt : Nat, O1[kt]? = some (Cell.tab q)) ∧ optK (lstD O1 d) fun ds => (∀ e ∈ ds, ∃ n r, e = .tup (.int n :: r)) ∧ ∀ es, es.Perm ds → es.Pairwise (fun a b => k0 a ≤ k0 b) → Q (.lst es) O1) E
def kV (H : Hp) (x : V) : Int := match x with
  | .ref t => (match H t with | some (.tup (.int n :: _)) => n | _ => 0)
  | _ => 0
theorem kV_of {K : PySem.W.Frag} {al : AL} {H : Hp} {v : V} {d : D} (r : Rp K al H v d) (h : ∃ n r, d = .tup (.int n :: r)) : kV H v = k0 d ∧ ∃ (t : Addr) (ys : List V), v = .ref t ∧ SqT K H t (.int (kV H v) :: ys) := by
  obtain ⟨n, ds, rfl⟩ := h
  cases r with
  | tup h hl hr =>
    cases hr with
    | cons h1 h2 =>
      cases h1
      have e : ∀ (a : Addr) (ys : List V), H a = some (HO.tup (V.int n :: ys)) → kV H (.ref a) = n := fun a ys e => by
        show (match H a with | some (.tup (.int n :: _)) => n | _ => 0) = n
        rw [e]
      rename_i aa vv
      refine ⟨e aa vv h.2, aa, vv, rfl, ?_⟩
      rw [e aa vv h.2]
      exact .inl (.inl h.2)
theorem rpa_perm {K : PySem.W.Frag} {al : AL} {H : Hp} {xs zs : List V} (hp : zs.Perm xs) : ∀ {ds : List D}, RpA K al H xs ds → ∃ es, es.Perm ds ∧ RpA K al H zs es := by
  induction hp with
  | nil => intro ds r; cases r; exact ⟨[], .refl _, .nil⟩
  | cons x p ih =>
    intro ds r
    cases r with
    | cons h t =>
      obtain ⟨es, e1, e2⟩ := ih t
      exact ⟨_ :: es, e1.cons _, .cons h e2⟩
  | swap x y l =>
    intro ds r
    cases r with
    | cons h t => cases t with
      | cons h2 t => exact ⟨_, .swap _ _ _, .cons h2 (.cons h t)⟩
  | trans p1 p2 ih1 ih2 =>
    intro ds r
    obtain ⟨es, e1, e2⟩ := ih2 r
    obtain ⟨fs, f1, f2⟩ := ih1 e2
    exact ⟨fs, f1.trans e1, f2⟩
theorem rpa_pw {K : PySem.W.Frag} {al : AL} {H : Hp} : ∀ {zs : List V} {es : List D}, RpA K al H zs es → (∀ e ∈ es, ∃ n r, e = D.tup (.int n :: r)) → zs.Pairwise (fun a b => kV H a ≤ kV H b) → es.Pairwise (fun a b => k0 a ≤ k0 b)
  | _, _, .nil, _, _ => .nil
  | z :: zs, e :: es, .cons h t, hk, hp => by
    obtain ⟨p1, p2⟩ := List.pairwise_cons.mp hp
    refine List.pairwise_cons.mpr ⟨fun b hb => ?_, rpa_pw t (fun x hx => hk x (.tail _ hx)) p2⟩
    obtain ⟨i, hi⟩ := List.mem_iff_getElem?.mp hb
    obtain ⟨v, ev, rv⟩ := t.get hi
    rw [← (kV_of h (hk e (.head _))).1, ← (kV_of rv (hk b (.tail _ hb))).1]
    exact p1 v (List.mem_of_getElem? ev)
theorem rd_sortLam {K : PySem.W.Frag} {W : WX} {q : Str} {te : TE} {t : TX} (h : RdE K W te t) : RdE K W (tSortLam K (tabA K q) (lamQ q) te) (xSortLam q t) := by
  intro al H σ G O Q E R rel env q0 hq he
  refine h al H σ G O _ E _ rel env q0 (fun al1 H1 O1 v d s1 rel1 r1 q1 => ?_) he
  obtain ⟨⟨kt, hkt⟩, q1⟩ := q1
  obtain ⟨ds, e1, hk, q1⟩ := optK.ex q1
  obtain ⟨a, xs, rfl, h1, h2, h3⟩ := lstD_rp rel1 r1 e1
  obtain ⟨o, eo, co⟩ := rel1.ok kt _ hkt
  match o, eo, co with
  | some (P, none), eo, ⟨hP, ps, hps, htr, hcs⟩ =>
  subst hP
  have hTS : LamX.TabS H1 (tabA K q) (lamQ q) := ⟨ps, hps, htr, fun pos cv hcv => let ⟨c, e, _, hc⟩ := hcs pos cv hcv; ⟨c, e, hc⟩⟩
  have hrow : ∀ x ∈ xs, ∃ (t : Addr) (ys : List V), x = .ref t ∧ SqT K H1 t (.int (kV H1 x) :: ys) := fun x hx => by
    obtain ⟨i, hi⟩ := List.mem_iff_getElem?.mp hx
    obtain ⟨d, ed, rd⟩ := h2.getV hi
    exact (kV_of rd (hk d (List.mem_of_getElem? ed))).2
  refine ⟨a, xs, kV H1, rfl, h1, hTS, hrow, fun c' H2 hH2 zs p hperm hpw hn => ?_⟩
  obtain ⟨es, p1, p2⟩ := rpa_perm hperm h2
  have hke : ∀ e ∈ es, ∃ n r, e = D.tup (.int n :: r) := fun e he => hk e (p1.mem_iff.mp he)
  have p3 := rpa_pw p2 hke hpw
  have hzl : zs.length ≤ sizeLine := by rw [hperm.length_eq]; exact h3
  have fin : ∀ (s2 : Stp al1 H1 al1 H2) (rel2 : Rel K al1 H2 O1), R (.ref p) (upd H2 p (.lst zs)) := fun s2 rel2 =>
    hq _ _ _ _ _ ((s1.trans s2).trans (stp_new rel2.live hn)) (rel2.new hn) (new_lst rel2 hn (p2.mono s2) hzl) (q1 es p1 p3)
  rcases hH2 with rfl | ⟨ps', more, hps', hc', rfl, htr2, hcs2⟩
  · exact fin (Stp.refl _ _) rel1
  · rw [hps] at hps'
    cases hps'
    have sc : Stp al1 H1 al1 (upd H1 c' (LamX.CodeO c' (lamQ q))) := stp_new rel1.live hc'
    have relc : Rel K al1 (upd H1 c' (LamX.CodeO c' (lamQ q))) O1 := rel1.new hc'
    have st : Stp al1 (upd H1 c' (LamX.CodeO c' (lamQ q))) al1 (upd (upd H1 c' (LamX.CodeO c' (lamQ q))) (tabA K q) (.tbl (ps ++ more))) := stp_set relc.nd eo
    have hPm : tabA K q ∈ fp al1 := fp_mem eo (by simp [fpo])
    have relt := relc.set (u := .tbl (ps ++ more)) (c := .tab q) eo ⟨rfl, ps ++ more, upd_same, htr2, fun pos cv hcv => by
      rcases hcs2 pos cv hcv with z | z
      · obtain ⟨c, e, hn, hc⟩ := hcs pos cv z
        have n1 : c ≠ tabA K q := fun z => hn (by rw [z]; exact hPm)
        have n2 : c ≠ c' := fun z => by rw [z, hc'] at hc; cases hc
        exact ⟨c, e, hn, by rw [upd_ne n1, upd_ne n2]; exact hc⟩
      · have hf : c' ∉ fp al1 := rel1.fresh hc'
        exact ⟨c', z, hf, by rw [upd_ne (fun z => hf (by rw [z]; exact hPm)), upd_same]⟩⟩
    rw [set_same hkt] at relt
    exact fin (sc.trans st) relt
theorem px_sortLam {X : Cx} {W : WX} {k : Nat} {qn : Str} {c : Addr} {e : Expr} {pa pn p1 p2 p3 pl kp pos : Pos} {j : Nat} {t : TX} (hr : Room k X.A) (TB : LamX.TabB X.base X.mg c (tabA X.K qn)) (hm : X.mg "sorted" = none) (h : PX X W e t) (hcode : X.env.code = .ref c := by rfl) (hq : X.env.qual ++ ("<lambda>" : Str) = lamQ qn := by rfl) (hg : Gl X "sorted" := by rfl)
    (hdef : defaultsOf (rowArgs pa) X.env = ([], []) := by rfl) (hs : starEach [e] X.env = (false, eval e X.env) :: starEach [] X.env := by rfl)
    (he2 : backTo pos (starEach [e] X.env) = (false, eval e X.env) :: backTo pos (starEach [] X.env) := by rfl) (hpl : (backTo pos (starEach [e] X.env)).any (·.1) = false := by rfl) :
    PX X W (.Call (.Name "sorted" pn) [e] [⟨some "key", .Lambda (rowArgs pa) (rowBody p1 p2 p3 j) rowScope pl, kp⟩] pos) (xSortLam qn t) := by
  obtain ⟨te, p, q⟩ := h
  have z := pe_sortLam (j := j) (kp := kp) (pl := pl) (p := pn) (p1 := p1) (p2 := p2) (p3 := p3) (pa := pa) (by have := hr.un; omega) (by have := hr.dp; omega) TB hcode hg hm p hdef hs he2 hpl
  rw [hq] at z
  exact ⟨_, z, rd_sortLam q⟩
end Px

namespace Px
open PySem PySem.Spec PyProof.Rows L2
/-! ### the end of a law with tables -/
theorem sp_startT {K : PySem.W.Frag} {H : Hp} {a : Addr} {ns : List Int} {T : SpX} {qs : List Str} (hS : SqL K H a (ns.map V.int)) (hK : ∀ q ∈ qs, H (tabA K q) = some (.tbl #[])) (hnd : (qs.map (tabA K)).Nodup)
    (hT : T [.lst (ns.map .int)] (qs.map Cell.tab) (fun d _ => d = .bl true) (fun _ _ => False)) (hl : ns.length ≤ 63) : spX K T [.ref a] H (fun v _ => v = .bl true) fun _ _ _ => False := by
  have hfp : fp ⟨[], qs.map fun q => some (tabA K q, none)⟩ = qs.map (tabA K) := by
    show fpl (qs.map fun q => some (tabA K q, none)) = _
    clear hK hnd hT
    induction qs with
    | nil => rfl
    | cons q qs ih => show tabA K q :: fpl (qs.map fun q => some (tabA K q, none)) = _; rw [ih]; rfl
  have hin : ∀ b, b ∈ fp ⟨[], qs.map fun q => some (tabA K q, none)⟩ → H b = some (.tbl #[]) := fun b hb => by
    rw [hfp] at hb
    obtain ⟨q, hq, rfl⟩ := List.mem_map.mp hb
    exact hK q hq
  have rel : Rel K ⟨[], qs.map fun q => some (tabA K q, none)⟩ H (qs.map Cell.tab) := by
    refine ⟨by simp, by rw [hfp]; exact hnd, fun b hb => by rw [hin b hb]; simp, fun b hb xs => by rw [hin b hb]; simp, fun k c h => ?_⟩
    rw [List.getElem?_map] at h
    obtain ⟨q, hq, rfl⟩ := Option.map_eq_some_iff.mp h
    refine ⟨some (tabA K q, none), by show (qs.map fun q => some (tabA K q, none))[k]? = _; rw [List.getElem?_map, hq]; rfl, rfl, #[], hK q (List.mem_of_getElem? hq), True.intro, fun pos cv hcv => ?_⟩
    have z : codeAmong pos [] = some cv := hcv
    simp [codeAmong] at z
  refine ⟨⟨[], qs.map fun q => some (tabA K q, none)⟩, qs.map Cell.tab, [.lst (ns.map .int)], fun d _ => d = .bl true, fun _ _ => False, rel, .cons (.lst ?_ ?_ intsR) .nil, hT, ?_, fun _ _ _ _ _ _ _ _ _ z => z.elim⟩
  · rcases hS with z | z
    · refine .inl ⟨fun m => ?_, z⟩
      have e := hin a m
      rcases z with z | ⟨o, z⟩ <;> (rw [e] at z; cases z)
    · exact .inr (.inr z)
  · rw [List.length_map]; exact Nat.le_trans hl (by rw [sizeLine_eq]; decide)
  · rintro al' H' O' v d _ _ r rfl
    cases r; rfl
theorem walk_pxT {l : PySem.W.OpenLaw} {k : Nat} {q : Program} {loose : List Str} {XP : (Str → Option Value) → Heap → Prop} {YP : World → Heap → Prop} {d : DefRec} {K : Params → PySem.W.Frag} {x : Str} {T : SpX} (qs : List Str)
    (hn : l.most = some 63) (hdf : d.params.defaults = []) (hr : Room k callerA) (hY : ∀ (w : World) (h : Heap), YP w h → (K w.params).In h)
    (F : ∀ (w : World) (mg : Str → Option Value) (fa : Addr) (h : Heap), YP w h → (K w.params).In h → h.Ns mainGlobals mg → mg d.name = some (.ref fa) →
      ∃ (fd : FuncData) (cs : List Addr), (qs.map (tabA (K w.params))).Nodup ∧ cs.length = qs.length ∧ (∀ p ∈ cs.zip (qs.map (tabA (K w.params))), h.get? p.2 = some { cls := .none, data := .fields #[] } ∧ (K w.params).lookup p.2 = none ∧ PySem.W.CodeHd h p.1 p.2) ∧
        (∀ (s : Shared) (u : Value), BindsTo s fd ⟨[u], []⟩ [(x, u)]) ∧ ∀ base : Heap, (K w.params).In base → base.Ns mainGlobals mg → (∀ p ∈ cs.zip (qs.map (tabA (K w.params))), LamX.TabB base mg p.1 p.2) → FnOk l.prog w (K w.params) mg base (L2.CX l.prog w) k fa fd [x] (spX (K w.params) T))
    (hT : ∀ ns : List Int, ns.length ≤ 63 → T [.lst (ns.map .int)] (qs.map Cell.tab) (fun d _ => d = .bl true) (fun _ _ => False)) : PySem.W.WalkO q loose XP YP l.row.toRowW d [] (fun f vs => PySem.call f vs) := by
  refine LamX.walk_ofTs (x := x) (K := K) (n := 63) (CX := fun w => L2.CX l.prog w) hn (by rw [sizeLine_eq]; decide) hdf hr hY (fun w mg fa h Y KX G hmg => ?_) fun w H s e s' h => no_cx h
  obtain ⟨fd, cs, hnd, hlen, hcs, hb, hF⟩ := F w mg fa h Y KX G hmg
  refine ⟨fd, cs.zip (qs.map (tabA (K w.params))), spX (K w.params) T, fun p hp => (hcs p hp).1, fun p hp => (hcs p hp).2.1, fun p hp => (hcs p hp).2.2, hb, fun H a ns hl _ hH hS => sp_startT hS (fun q hq => ?_) hnd (hT ns hl) hl, hF⟩
  obtain ⟨i, hi⟩ := List.mem_iff_getElem?.mp hq
  have hiq : i < qs.length := (List.getElem?_eq_some_iff.mp hi).1
  have hic : i < cs.length := by omega
  have := hH (cs[i], tabA (K w.params) q) (List.mem_of_getElem? (i := i) (by
    rw [List.getElem?_zip_eq_some]
    exact ⟨List.getElem?_eq_getElem hic, by rw [List.getElem?_map, hi]; rfl⟩))
  exact this
end Px

namespace Px
open PySem PySem.Spec PyProof.Rows L2

/-! ### a dict with tuple keys, its items -/
section
variable {X : Cx} {pins : List (Addr × Obj)} {σ : L2.St} {H : Hp} {s : Shared} {d : Addr} {o : Obj}
theorem frzT2 {kvs : List (List Key × V)} (I : Inv X pins σ H s) (h : H d = some (.frz o (.dT kvs))) :
    (d == sysModules) = false ∧ s.heap.get? d = some o ∧ o.ExactDict ∧ ∃ (es : Array DictEntry) (ep : Nat), o.data = .dict es ep ∧ es.size = kvs.length ∧
      ∀ (i : Nat) (k : List Key) (v : V), kvs[i]? = some (k, v) → ∃ (en : DictEntry) (q : Addr), es[i]? = some en ∧ en.key = .ref q ∧ H q = some (.tup (k.map L2.kV)) ∧ RelV v en.val := by
  obtain ⟨hd, z, hs, xs, pr, o', es, ep, ho, hx, hdt, he, _⟩ := I.hok d _ h
  rw [hd] at ho
  cases ho
  refine ⟨hs, hd, hx, es, ep, hdt, ?_, fun i k v e => ?_⟩
  · have l1 : es.size = xs.length := size_of_entries he
    have l2 : kvs.length = xs.length := Paired.length pr
    omega
  · obtain ⟨b, hb, e1, e2, e3⟩ := paired_get pr e
    have q := entry_at he i
    rw [hb] at q
    exact ⟨_, b.2.1, q, rfl, e2, e3⟩
end
/-- the pairs of a dict with tuple keys, each a new tuple -/
def Itit (d : Addr) (o : Obj) (kvs : List (List Key × V)) : It :=
  ⟨fun i H => H d = some (.frz o (.dT kvs)) ∧ i < kvs.length, fun i H x H' => ∃ T k v q, kvs[i]? = some (k, v) ∧ x = .ref T ∧ H T = none ∧ H q = some (.tup (k.map L2.kV)) ∧ H' = upd H T (.tup [.ref q, v]), fun i H => H d = some (.frz o (.dT kvs)) ∧ kvs.length ≤ i⟩
section
variable {P : Program} {w : World} {K : PySem.W.Frag} {d : Addr} {o : Obj} {es : Array DictEntry} {ep : Nat}
theorem turn_itemsT {kvs : List (List Key × V)} {elts : List Expr} {kk : Nat} {tpos : Pos} (it : Addr) (hod : o.data = .dict es ep) :
    Turn P w K (.Tuple elts kk tpos) (Itit d o kvs) [it] it (fun i h => ∃ ok ov, IsItemIter h it d i kvs.length ep ok ov) where
  mem := by simp
  obj := fun i h st b hb => by
    have e : b = it := by simpa using hb
    subst e
    obtain ⟨ok, ov, e⟩ := st
    exact ⟨_, e, fun v z => nomatch z⟩
  keep := fun i h h' st k => let ⟨ok, ov, e⟩ := st; ⟨ok, ov, k it (by simp) _ e⟩
  item := by
    intro X hP hw hK hc i pins s σ H E I hf st hg
    subst hP hw hK
    obtain ⟨hd, hi⟩ := hg
    obtain ⟨hs, hgd, hx, es', ep', hdt, hsz, ent⟩ := frzT2 I hd
    obtain ⟨rfl, rfl⟩ := dict_ep hod hdt
    obtain ⟨⟨k, v⟩, hkv⟩ : ∃ p, kvs[i]? = some p := ⟨kvs[i], List.getElem?_eq_getElem hi⟩
    obtain ⟨en, q, hen, hkey, hq, ru⟩ := ent i k v hkv
    obtain ⟨ok, ov, he⟩ := st
    rw [← hsz] at he
    have hlt : it < s.heap.objs.size := Heap.lt_size he
    have hie : i < es'.size := by omega
    have een : es'[i] = en := by rw [Array.getElem?_eq_getElem hie] at hen; exact Option.some.inj hen
    refine wpAny_pyNext_items_item_raw he ⟨o, hgd, hx, hdt⟩ hie fun h' ho hT hz hk => ?_
    rw [een, hkey] at ho hT
    refine ⟨_, rfl, wpAny_letOwnedTupleGo_items (s := { s with heap := h' }) ho fun h'' he' sb => ?_⟩
    have hT2 : h''.get? s.heap.objs.size = some { cls := .type "tuple", data := .seq #[.ref q, en.val] } := (sb.2 _ (Nat.ne_of_gt hlt)).trans hT
    have new : ObjOk X.prog X.w (upd H s.heap.objs.size (.tup [.ref q, v])) h'' s.heap.objs.size (.tup [.ref q, v]) :=
      ⟨by show 2 ≤ sizeLine; decide, [.ref q, en.val], .cons rfl (.cons ru .nil), ⟨_, hT2, rfl, _, rfl⟩⟩
    have I1 : Inv X pins σ (upd H s.heap.objs.size (.tup [.ref q, v])) { s with heap := h'' } :=
      I.turnedNew (t' := s.toks) (ch := [it]) (fun b ob hb e => (sb.2 b (by simpa using hb)).trans (hk b ob (by simpa using hb) e)) hf (Nat.le_refl _) new
    refine ⟨.ref s.heap.objs.size, _, I1, rfl, ⟨_, k, v, q, hkv, rfl, I.hok.fresh (Nat.le_refl _), hq, rfl⟩, ⟨.ref q, en.val, ?_⟩, fun b hb => ?_⟩
    · rw [← hsz]; exact he'
    · have e : b = it := by simpa using hb
      rw [e, upd_ne (Nat.ne_of_lt hlt)]
      exact (hf it (by simp)).1
  done := by
    intro X hP hw hK hc i pins s σ H E I hf st hg
    subst hP hw hK
    obtain ⟨hd, hi⟩ := hg
    obtain ⟨f0, f1, f2, f3, f4, f5⟩ := hf it (by simp)
    obtain ⟨hs, hgd, hx, es', ep', hdt, hsz, ent⟩ := frzT2 I hd
    obtain ⟨rfl, rfl⟩ := dict_ep hod hdt
    obtain ⟨ok, ov, he⟩ := st
    rw [← hsz] at he
    exact wpAny_pyNext_items_end_raw (I.ok.hd hc) he ⟨o, hgd, hx, hdt⟩ (by omega) fun h' eb => ⟨rfl, I.turned (t' := s.toks) (fun b ob hb e => eb b ob hb e) f0 f1 f3 f4 f5⟩
  self := fun A i s Q E st h => let ⟨_, _, e⟩ := st; PySem.W.kcp_self e h
end
def iItemsT (td : TE) : TI := fun σ H R => td σ H fun x H1 => ∃ d o kvs, x = .ref d ∧ H1 d = some (.frz o (.dT kvs)) ∧ R (Itit d o kvs) H1
section
variable {X : Cx} {tg e : Expr} {td : TE} {apos cpos : Pos}
theorem pi_itemsT {elts : List Expr} {kk : Nat} {tpos : Pos} (he : PE X e td) (hbase : attributeBase e "items" X.env (eval e X.env) = eval e X.env := by rfl) (hline : (apos.endLine == cpos.line) = true := by rfl) :
    PI X (.Tuple elts kk tpos) (.Call (.Attribute e "items" apos) [] [] cpos) (iItemsT td) := by
  refine ⟨fun pins s σ H R I h => ?_⟩
  refine wpAny_Call_method (T := "dict") (id := "dict.items") hbase rfl hline F.plainAttrs_dict F.slot_dict_items F.type_dict_items (thn (he.run pins s σ H _ I h) fun u s1 ⟨x, H1, I1, rx, d, o, kvs, ex, hd, q⟩ => ?_)
  subst ex
  obtain rfl : u = Value.ref d := rx
  obtain ⟨hs, hgd, hx, es, ep, hdt, hsz, ent⟩ := frzT2 I1 hd
  have hr : s1.heap.DictRaw d es ep := ⟨o, hgd, hx, hdt⟩
  refine ⟨hr.typeIs, ?_, ?_⟩
  · exact fun b e => ⟨o, by cases e; exact hgd, hx.2.1⟩
  have I2 : Inv X pins σ H1 { s1 with heap := s1.heap.push { cls := .type "dict_items", data := .fields #[.ref d] } } := I1.kept (t' := s1.toks) fun b ob q => Heap.get?_push_of_some _ q
  have fin : wpAny (model X.prog X.w) X.A (pyIter (.ref s1.heap.objs.size)) (PIE X pins σ (.Tuple elts kk tpos) R) X.xe { s1 with heap := s1.heap.push { cls := .type "dict_items", data := .fields #[.ref d] } } := by
    refine wpAny_pyIter_items_raw (d := d) ⟨_, Heap.get?_push_size _ rfl, rfl, rfl⟩ (hr.at fun b z => Heap.get?_push_of_some _ z) (pi_one (tk := s1.toks) I2 _ (turn_itemsT _ hdt) ⟨.none, .none, ?_⟩ q)
    rw [← hsz]
    exact Heap.get?_push_size _ rfl
  show wpAny _ _ (callWith cpos (.builtin "dict.items") [.ref d] [] []) _ X.xe s1
  exact method_meetsIn F.slot_dict_items F.entry_dict_items rfl (PySem.evalArgs_none ⟨rfl, hr.typeIs, F.args_dict_items_1 _, _, meets_dict_items_raw d hs, ⟨es, ep, hr⟩, fin⟩)
end
/-! D level: the loop with its targets ((a, ..), (b, ..)) -/
def g2T (n1 n2 : Nat) (t1 t2 : TGsX) : TGX := fun d G O Q _ => match d with
  | .tup [.tup ds1, .tup ds2] => ds1.length = n1 ∧ t1 ds1 G O fun G1 O1 => ds2.length = n2 ∧ t2 ds2 G1 O1 Q
  | _ => False
def fzCTK (c : Cell) (Q : List (List Key × D) → Prop) : Prop := match c with
  | .fzT _ _ kvs => Q kvs
  | _ => False
def itemsD (kvs : List (List Key × D)) : List D := kvs.map fun p => .tup [.tup (p.1.map keyDD), p.2]
def xForT2 (n1 n2 : Nat) (t1 t2 : TGsX) (a : TX) (body : TSX) : TSX := fun D G O => a G O (fun d O1 => ownK d fun k => optK O1[k]? fun c => fzCTK c fun kvs => (∀ p ∈ kvs, ∀ y ∈ p.1, kOk y) ∧ forGo (g2T n1 n2 t1 t2) body (fun O' => O'[k]? = some c) D (itemsD kvs) G O1) (fun x O1 => D.ex x G O1)
section
variable {K : PySem.W.Frag} {W : WX} {al : AL} {H : Hp} {O : Om}
theorem fzCTK.ex {o : Option Cell} {Q : Cell → List (List Key × D) → Prop} (h : optK o fun c => fzCTK c (Q c)) : ∃ oo vs kvs, o = some (.fzT oo vs kvs) ∧ Q (.fzT oo vs kvs) kvs := by
  obtain ⟨c, e, h⟩ := h.ex
  cases c with
  | fzT a b c => exact ⟨_, _, _, e, h⟩
  | _ => exact (show False from h).elim
theorem ownZT {v : V} {k : Nat} {oo : Obj} {xs : List (List Key × V)} {ds : List (List Key × D)} (rel : Rel K al H O) (r : Rp K al H v (.own k)) (hc : O[k]? = some (.fzT oo xs ds)) : ∃ a, v = .ref a ∧ al.l[k]? = some (some (a, none)) ∧ H a = some (.frz oo (.dT xs)) ∧ RpK K al H xs ds := by
  obtain ⟨o, e, q, hv⟩ := r.ownI rel hc
  match o, q with
  | some (a, none), q => exact ⟨a, hv _ rfl, e, q.1, q.2⟩
theorem fz_laterT {k : Nat} {a : Addr} {oo : Obj} {vs : List (List Key × V)} {kvs : List (List Key × D)} (ea : al.l[k]? = some (some (a, none))) {al' : AL} {H' : Hp} {O' : Om} (s : Stp0 al H al' H') (rel : Rel K al' H' O') (e : O'[k]? = some (.fzT oo vs kvs)) : H' a = some (.frz oo (.dT vs)) ∧ RpK K al' H' vs kvs := by
  obtain ⟨o', e', ok⟩ := rel.ok k _ e
  match o', ok with
  | some (a', none), ⟨h1, h2⟩ =>
    have e3 : a' = a := by
      rcases s.old k _ ea with z | z <;> rw [e'] at z <;> cases z
      rfl
    subst e3
    exact ⟨h1, h2⟩
theorem keys_val : ∀ {k : List Key}, (∀ y ∈ k, kOk y) → RpA K al H (k.map L2.kV) (k.map keyDD)
  | [], _ => .nil
  | a :: k, h => .cons (key_val (h a (List.mem_cons_self ..))) (keys_val fun y hy => h y (List.mem_cons_of_mem _ hy))
theorem rd_forT2 {is1 is2 : List Nat} {n1 n2 : Nat} {te : TE} {g1 g2 : TGs} {tb : TS} {t1 t2 : TGsX} {a : TX} {body : TSX} (hi : RdE K W te a) (h1 : RdGs K is1 g1 t1) (h2 : RdGs K is2 g2 t2) (hb : RdS K W tb body) :
    RdS K W (tFor (iItemsT te) (gTup K 2 (gCons (gTup K n1 g1) (gCons (gTup K n2 g2) gNil))) tb) (xForT2 n1 n2 t1 t2 a body) := by
  intro al H σ G O D R rel env q e
  refine hi al H σ G O _ _ _ rel env q (fun al1 H1 O1 v d s1 rel1 r1 q1 => ?_) (fun al1 H1 O1 x cls dd s1 rel1 r1 q1 => e.ex _ _ _ _ _ _ _ _ s1 rel1 (env.mono s1) r1 q1)
  obtain ⟨k, rfl, q1⟩ := ownK.ex q1
  obtain ⟨oo, vs, kvs, ee, hk, ⟨q1⟩⟩ := fzCTK.ex q1
  obtain ⟨ad, rfl, ea, hH, hr⟩ := ownZT rel1 r1 ee
  have hlen : vs.length = kvs.length := hr.len
  refine ⟨ad, oo, vs, rfl, hH, ?_⟩
  have hdl : (itemsD kvs).length = kvs.length := List.length_map ..
  refine ⟨fun i m σ' H' => ∃ al' G' O', Stp al1 H1 al' H' ∧ Rel K al' H' O' ∧ EnvR K al' H' σ' G' ∧ i + m = (itemsD kvs).length ∧ forGo0 (g2T n1 n2 t1 t2) body (fun O' => O'[k]? = some (Cell.fzT oo vs kvs)) D ((itemsD kvs).drop i) G' O', ⟨(itemsD kvs).length, al1, G, O1, Stp.refl _ _, rel1, env.mono s1, by omega, q1⟩, ?_⟩
  rintro i m σ' H' ⟨al', G', O', s', rel', env', hm, h⟩
  by_cases hlt : i < (itemsD kvs).length
  · right
    rw [List.drop_eq_getElem_cons hlt] at h
    obtain ⟨hgr, h⟩ := h
    obtain ⟨k1, k2⟩ := fz_laterT ea s'.toStp0 rel' hgr
    have hlt' : i < kvs.length := by omega
    refine ⟨⟨k1, by omega⟩, fun σ2 H2 => ∃ al2 G2 O2, Stp al1 H1 al2 H2 ∧ Rel K al2 H2 O2 ∧ EnvR K al2 H2 σ2 G2 ∧ forGo0 (g2T n1 n2 t1 t2) body (fun O' => O'[k]? = some (Cell.fzT oo vs kvs)) D ((itemsD kvs).drop (i + 1)) G2 O2, ?_, fun x H2 hyl => ?_⟩
    · rintro σ2 H2 ⟨al2, G2, O2, a1, a2, a3, a4⟩
      exact ⟨m - 1, by omega, al2, G2, O2, a1, a2, a3, by omega, a4⟩
    · obtain ⟨T, key, v, qa, ev, rfl, hT, hqa, rfl⟩ := hyl
      have sy : Stp al' H' al' (upd H' T (.tup [.ref qa, v])) := stp_new rel'.live hT
      have rel2 := rel'.keep sy (upd_keep hT)
      have ek : kvs[i]? = some kvs[i] := List.getElem?_eq_getElem hlt'
      obtain ⟨v', e1, rv⟩ := rpk_at k2 (k := kvs[i].1) (d := kvs[i].2) ek
      rw [ev] at e1; cases e1
      have hgi : (itemsD kvs)[i] = .tup [.tup (kvs[i].1.map keyDD), kvs[i].2] := List.getElem_map ..
      rw [hgi] at h
      have env2 := env'.mono sy
      have rv2 := rv.mono sy
      have kok : ∀ y ∈ kvs[i].1, kOk y := hk _ (List.getElem_mem hlt')
      generalize hp : kvs[i] = pr at *
      obtain ⟨key, dv⟩ := pr
      cases dv with
      | tup ds2 =>
        obtain ⟨l1, h⟩ := h
        refine ⟨T, _, rfl, .inl (.inl upd_same), rfl, _, _, rfl, qa, _, rfl, .inl (.inl (upd_keep hT _ _ hqa)), by rw [List.length_map] at l1 ⊢; exact l1, ?_⟩
        refine h1 al' _ σ' G' O' _ _ _ _ rel2 env2 (keys_val kok) h fun σ3 G3 env3 hw3 q3 => ?_
        obtain ⟨l2, q3⟩ := q3
        obtain ⟨a2, xs2, rfl, s2, r2, _⟩ := rv2.tupI
        refine ⟨_, _, rfl, a2, xs2, rfl, s2, by rw [r2.length]; exact l2, ?_⟩
        refine h2 al' _ σ3 G3 O' _ _ _ _ rel2 env3 r2 q3 fun σ4 G4 env4 hw4 q4 => ⟨rfl, ?_⟩
        have s13 : Stp al1 H1 al' (upd H' T (.tup [.ref qa, .ref a2])) := s'.trans sy
        refine hb al' _ σ4 G4 O' _ _ rel2 env4 q4 ⟨fun al4 H4 O4 σ4 G4 s4 rel4 env4 q4 => ⟨al4, G4, O4, s13.trans s4, rel4, env4, q4⟩, fun al4 H4 O4 v d s4 rel4 r4 q4 => ?_, fun al4 H4 O4 σ4 G4 s4 rel4 env4 q4 => ?_, fun al4 H4 O4 σ4 G4 s4 rel4 env4 q4 => ⟨al4, G4, O4, s13.trans s4, rel4, env4, q4⟩, fun al4 H4 O4 σ4 G4 y cls dd s4 rel4 env4 r4 q4 => ?_⟩
        · exact e.rt _ _ _ _ _ (s1.trans (s13.trans s4)) rel4 r4 q4
        · exact e.nx _ _ _ _ _ (s1.trans (s13.trans s4)) rel4 env4 q4
        · exact e.ex _ _ _ _ _ _ _ _ (s1.trans (s13.trans s4)) rel4 env4 r4 q4
      | _ => exact (show False from h).elim
  · left
    rw [List.drop_eq_nil_of_le (Nat.le_of_not_lt hlt)] at h
    obtain ⟨hgr, h⟩ := h
    obtain ⟨k1, k2⟩ := fz_laterT ea s'.toStp0 rel' hgr
    exact ⟨⟨k1, by omega⟩, e.nx _ _ _ _ _ (s1.trans s') rel' env' h⟩
end
section
variable {X : Cx} {W : WX} {it : Expr} {a : TX} {apos cpos tpos p1 p2 pos : Pos} {es1 es2 : List Expr} {kk k1 k2 : Nat} {is1 is2 : List Nat} {t1 t2 : TGsX} {body : List Stmt} {t : TSX} {n1 n2 : Nat}
theorem psx_forT2 (hp : PassesOwn (model X.prog X.w) X.A X.env X.xe) (hc : X.calm = true) (hi : PX X W it a) (h1 : PGsX X es1 is1 t1) (h2 : PGsX X es2 is2 t2) (hb : PSsX X W body t)
    (hbase : attributeBase it "items" X.env (eval it X.env) = eval it X.env := by rfl) (hline : (apos.endLine == cpos.line) = true := by rfl)
    (hn1 : (assignEach es1 X.env).length = n1 := by rfl) (hst1 : (assignEach es1 X.env).findIdx? (·.1) = none := by rfl) (hn2 : (assignEach es2 X.env).length = n2 := by rfl) (hst2 : (assignEach es2 X.env).findIdx? (·.1) = none := by rfl)
    (hs1 : (assignEach [.Tuple es1 k1 p1, .Tuple es2 k2 p2] X.env).map (·.2) = assign (.Tuple es1 k1 p1) X.env :: (assignEach [.Tuple es2 k2 p2] X.env).map (·.2) := by rfl)
    (hs2 : (assignEach [.Tuple es2 k2 p2] X.env).map (·.2) = assign (.Tuple es2 k2 p2) X.env :: (assignEach [] X.env).map (·.2) := by rfl)
    (hn : (assignEach [.Tuple es1 k1 p1, .Tuple es2 k2 p2] X.env).length = 2 := by rfl) (hst : (assignEach [.Tuple es1 k1 p1, .Tuple es2 k2 p2] X.env).findIdx? (·.1) = none := by rfl)
    (hs : ∀ x, foldedSetIterable (.Call (.Attribute it "items" apos) [] [] cpos) X.env x = pure x := by intro _; rfl) :
    PSX X W (.For (.Tuple [.Tuple es1 k1 p1, .Tuple es2 k2 p2] kk tpos) (.Call (.Attribute it "items" apos) [] [] cpos) body [] pos) (xForT2 n1 n2 t1 t2 a t) := by
  obtain ⟨_, pa, qa⟩ := hi
  obtain ⟨_, pg1, qg1⟩ := h1
  obtain ⟨_, pg2, qg2⟩ := h2
  obtain ⟨_, pb, qb⟩ := hb
  exact ⟨_, ps_for hp hc (pi_itemsT pa hbase hline) (pg_tup hc (pgs_cons (pg_tup hc pg1 hn1 hst1) (pgs_cons (pg_tup hc pg2 hn2 hst2) pgs_nil hs2) hs1) hn hst) pb hs, rd_forT2 qa qg1 qg2 qb⟩
end
end Px

namespace Px
open PySem PySem.Spec PyProof.Rows L2
/-! ### sorted(rows, key=lambda row: row[0]), the answer an own list -/
def xSortLamO (q : Str) (t : TX) : TX := fun G O Q E => t G O (fun d O1 => (∃ kt : Nat, O1[kt]? = some (Cell.tab q)) ∧ optK (lstD O1 d) fun ds => (∀ e ∈ ds, ∃ n r, e = .tup (.int n :: r)) ∧ ∀ es, es.Perm ds → es.Pairwise (fun a b => k0 a ≤ k0 b) → Q (.own O1.length) (O1 ++ [.lst es])) E
theorem ownLast {K : PySem.W.Frag} {al : AL} {H : Hp} {O : Om} {p : Addr} {H' : Hp} (rel : Rel K al H O) : Rp K (al.add (some (p, none))) H' (.ref p) (.own O.length) := by
  refine .own (o := some (p, none)) ?_ (fun q e => by cases e; rfl)
  rw [← rel.len]
  exact add_new
theorem rd_sortLamO {K : PySem.W.Frag} {W : WX} {q : Str} {te : TE} {t : TX} (h : RdE K W te t) : RdE K W (tSortLam K (tabA K q) (lamQ q) te) (xSortLamO q t) := by
  intro al H σ G O Q E R rel env q0 hq he
  refine h al H σ G O _ E _ rel env q0 (fun al1 H1 O1 v d s1 rel1 r1 q1 => ?_) he
  obtain ⟨⟨kt, hkt⟩, q1⟩ := q1
  obtain ⟨ds, e1, hk, q1⟩ := optK.ex q1
  obtain ⟨a, xs, rfl, h1, h2, h3⟩ := lstD_rp rel1 r1 e1
  obtain ⟨o, eo, co⟩ := rel1.ok kt _ hkt
  match o, eo, co with
  | some (P, none), eo, ⟨hP, ps, hps, htr, hcs⟩ =>
  subst hP
  have hTS : LamX.TabS H1 (tabA K q) (lamQ q) := ⟨ps, hps, htr, fun pos cv hcv => let ⟨c, e, _, hc⟩ := hcs pos cv hcv; ⟨c, e, hc⟩⟩
  have hrow : ∀ x ∈ xs, ∃ (t : Addr) (ys : List V), x = .ref t ∧ SqT K H1 t (.int (kV H1 x) :: ys) := fun x hx => by
    obtain ⟨i, hi⟩ := List.mem_iff_getElem?.mp hx
    obtain ⟨d, ed, rd⟩ := h2.getV hi
    exact (kV_of rd (hk d (List.mem_of_getElem? ed))).2
  refine ⟨a, xs, kV H1, rfl, h1, hTS, hrow, fun c' H2 hH2 zs p hperm hpw hn => ?_⟩
  obtain ⟨es, p1, p2⟩ := rpa_perm hperm h2
  have hke : ∀ e ∈ es, ∃ n r, e = D.tup (.int n :: r) := fun e he => hk e (p1.mem_iff.mp he)
  have p3 := rpa_pw p2 hke hpw
  have hzl : zs.length ≤ sizeLine := by rw [hperm.length_eq]; exact h3
  have fin : ∀ (s2 : Stp al1 H1 al1 H2) (rel2 : Rel K al1 H2 O1), R (.ref p) (upd H2 p (.lst zs)) := fun s2 rel2 =>
    hq _ _ _ _ _ ((s1.trans s2).trans (stp_own rel2.live hn)) (rel2.own (c := .lst es) hn ⟨zs, upd_same, hzl, (p2.mono s2).mono (stp_own rel2.live hn)⟩) (ownLast rel2) (q1 es p1 p3)
  rcases hH2 with rfl | ⟨ps', more, hps', hc', rfl, htr2, hcs2⟩
  · exact fin (Stp.refl _ _) rel1
  · rw [hps] at hps'
    cases hps'
    have sc : Stp al1 H1 al1 (upd H1 c' (LamX.CodeO c' (lamQ q))) := stp_new rel1.live hc'
    have relc : Rel K al1 (upd H1 c' (LamX.CodeO c' (lamQ q))) O1 := rel1.new hc'
    have st : Stp al1 (upd H1 c' (LamX.CodeO c' (lamQ q))) al1 (upd (upd H1 c' (LamX.CodeO c' (lamQ q))) (tabA K q) (.tbl (ps ++ more))) := stp_set relc.nd eo
    have hPm : tabA K q ∈ fp al1 := fp_mem eo (by simp [fpo])
    have relt := relc.set (u := .tbl (ps ++ more)) (c := .tab q) eo ⟨rfl, ps ++ more, upd_same, htr2, fun pos cv hcv => by
      rcases hcs2 pos cv hcv with z | z
      · obtain ⟨c, e, hn, hc⟩ := hcs pos cv z
        have n1 : c ≠ tabA K q := fun z => hn (by rw [z]; exact hPm)
        have n2 : c ≠ c' := fun z => by rw [z, hc'] at hc; cases hc
        exact ⟨c, e, hn, by rw [upd_ne n1, upd_ne n2]; exact hc⟩
      · have hf : c' ∉ fp al1 := rel1.fresh hc'
        exact ⟨c', z, hf, by rw [upd_ne (fun z => hf (by rw [z]; exact hPm)), upd_same]⟩⟩
    rw [set_same hkt] at relt
    exact fin (sc.trans st) relt
theorem px_sortLamO {X : Cx} {W : WX} {k : Nat} {qn : Str} {c : Addr} {e : Expr} {pa pn p1 p2 p3 pl kp pos : Pos} {j : Nat} {t : TX} (hr : Room k X.A) (TB : LamX.TabB X.base X.mg c (tabA X.K qn)) (hm : X.mg "sorted" = none) (h : PX X W e t) (hcode : X.env.code = .ref c := by rfl) (hq : X.env.qual ++ ("<lambda>" : Str) = lamQ qn := by rfl) (hg : Gl X "sorted" := by rfl)
    (hdef : defaultsOf (rowArgs pa) X.env = ([], []) := by rfl) (hs : starEach [e] X.env = (false, eval e X.env) :: starEach [] X.env := by rfl)
    (he2 : backTo pos (starEach [e] X.env) = (false, eval e X.env) :: backTo pos (starEach [] X.env) := by rfl) (hpl : (backTo pos (starEach [e] X.env)).any (·.1) = false := by rfl) :
    PX X W (.Call (.Name "sorted" pn) [e] [⟨some "key", .Lambda (rowArgs pa) (rowBody p1 p2 p3 j) rowScope pl, kp⟩] pos) (xSortLamO qn t) := by
  obtain ⟨te, p, q⟩ := h
  have z := pe_sortLam (j := j) (kp := kp) (pl := pl) (p := pn) (p1 := p1) (p2 := p2) (p3 := p3) (pa := pa) (by have := hr.un; omega) (by have := hr.dp; omega) TB hcode hg hm p hdef hs he2 hpl
  rw [hq] at z
  exact ⟨_, z, rd_sortLamO q⟩
end Px

namespace Px
open PySem PySem.Spec PyProof.Rows L2
/-! ### range(a, b, -1) -/
/-- downwards -/
def dnD (a : Int) : Nat → List D
  | 0 => []
  | n + 1 => .int a :: dnD (a - 1) n
theorem dnD_len : ∀ {n : Nat} {a : Int}, (dnD a n).length = n
  | 0, _ => rfl
  | n + 1, a => by show (dnD (a - 1) n).length + 1 = _; rw [dnD_len]
theorem dnD_get : ∀ {n : Nat} {a : Int} {i : Nat} {d : D}, (dnD a n)[i]? = some d → i < n ∧ d = .int (a - (i : Nat))
  | 0, _, _, _, h => nomatch h
  | n + 1, a, 0, d, h => by
    have h : some (D.int a) = some d := h
    cases h
    exact ⟨by omega, by rw [show a - ((0 : Nat) : Int) = a from by omega]⟩
  | n + 1, a, i + 1, d, h => by
    have h : (dnD (a - 1) n)[i]? = some d := by simpa [dnD] using h
    obtain ⟨h1, rfl⟩ := dnD_get h
    exact ⟨by omega, by rw [show a - 1 - (i : Nat) = a - ((i + 1 : Nat) : Int) from by omega]⟩
def dRngD (vs : List D) (Q : List D → Prop) : Prop := match vs with
  | [.int a, .int b, .int c] => (c = -1 ∧ a ≤ 1000000 ∧ -1000000 ≤ a ∧ b ≤ 1000000 ∧ -1000000 ≤ b ∧ a - b ≤ 1000000) ∧ Q (dnD a (a - b).toNat)
  | _ => False
def xRngD (a : TAX) : TIX := fun G O Q E => a G O (fun vs O1 => dRngD vs fun ds => Q ds (fun _ => True) O1) E
section
variable {K : PySem.W.Frag} {W : WX} {al : AL} {H : Hp}
theorem wk_rngD {lo : Int} {n : Nat} : Wk K (Itc lo (-1) n) (dnD lo n) (fun _ => True) al H := by
  intro al' H' O' s rel _
  refine ⟨fun i hi => by show n ≤ i; rw [dnD_len] at hi; exact hi, fun i d hd => ?_⟩
  obtain ⟨hi, rfl⟩ := dnD_get hd
  refine ⟨hi, fun x H2 hy => ?_⟩
  obtain ⟨rfl, rfl⟩ := hy
  refine ⟨Stp.refl _ _, fun _ _ h => h, ?_⟩
  rw [show lo + (i : Nat) * (-1) = lo - (i : Nat) from by omega]
  exact .int _
theorem rd_rng3 {n : Nat} {ta : TA} {t : TAX} (h : RdA K W n ta t) (hn : n = 3) : RdI K W (iRng3 ta) (xRngD t) := by
  intro al H σ G O Q E R rel env q hq he
  refine h al H σ G O _ E _ rel env q (fun al1 H1 O1 vs ds s1 rel1 r1 hl q1 => ?_) he
  subst hn
  match ds, hl with
  | [d, e, f], _ =>
    cases r1 with
    | cons r r' =>
      cases r' with
      | cons r2 r3 =>
        cases r3 with
        | cons r4 r5 =>
          cases r5
          cases d with
          | int a =>
            cases e with
            | int b =>
              cases f with
              | int c =>
                cases r; cases r2; cases r4
                obtain ⟨⟨rfl, h1, h2, h3, h4, h5⟩, h6⟩ := q1
                exact ⟨a, b, -1, _, rfl, RgC.neg (by omega) (by omega) (by omega) (by omega), hq _ _ _ _ _ _ s1 rel1 (wk_rngD (lo := a) (n := (a - b).toNat)) (by rw [dnD_len, sizeLine_eq]; omega) h6⟩
              | _ => exact (show False from q1).elim
            | _ => exact (show False from q1).elim
          | _ => exact (show False from q1).elim
end
section
variable {X : Cx} {W : WX} {tg a b c : Expr} {p pos : Pos}
theorem pix_rng3 {t : TAX} (hg : Gl X "range") (hm : X.mg "range" = none) (h : PAX X W [a, b, c] t) (hs : starEach [a, b, c] X.env = (false, eval a X.env) :: starEach [b, c] X.env := by rfl) (hpl : (backTo pos (starEach [b, c] X.env)).any (·.1) = false := by rfl) :
    PIX X W tg (.Call (.Name "range" p) [a, b, c] [] pos) (xRngD t) := let ⟨_, p, q⟩ := h; ⟨_, pi_range3 hg hm p hs hpl, rd_rng3 q rfl⟩
end
/-! ### len(set(xs)), xs a list of whole numbers -/
def tLenSet (K : PySem.W.Frag) (te : TE) : TE := fun σ H Q => te σ H fun v H1 => ∃ (a : Addr) (ns : List Int), v = .ref a ∧ SqL K H1 a (ns.map V.int) ∧ ns.length < 64 ∧
  ∀ (ms : List Int), ms.Nodup → (∀ k, k ∈ ms ↔ k ∈ ns) → Q (.int (ms.length : Nat)) H1
theorem pe_lenSet {X : Cx} {e : Expr} {te : TE} {p p2 pos pos2 : Pos} (hc : X.calm = true) (hg : Gl X "len") (hm : X.mg "len" = none) (hg2 : Gl X "set") (hm2 : X.mg "set" = none) (he : PE X e te)
    (hs : starEach [e] X.env = (false, eval e X.env) :: starEach [] X.env := by rfl)
    (hs2 : starEach [.Call (.Name "set" p2) [e] [] pos2] X.env = (false, eval (.Call (.Name "set" p2) [e] [] pos2) X.env) :: starEach [] X.env := by rfl) :
    PE X (.Call (.Name "len" p) [.Call (.Name "set" p2) [e] [] pos2] [] pos) (tLenSet X.K te) := by
  refine ⟨fun pins s σ H Q I h => ?_⟩
  refine Call_ (ld_blt I hg hm (by decide +kernel : bootBuiltins "len" = some (.builtin "len")) ?_)
  refine PyProof.Rows.callWith_builtin1 (PyProof.Rows.args_cons ?_ hs2) hs2 rfl
  refine Call_ (ld_blt I hg2 hm2 (by decide +kernel : bootBuiltins "set" = some (.type "set")) ?_)
  refine PyProof.Rows.callWith_type1 (PyProof.Rows.args_cons (thn (he.run pins s σ H _ I h) fun v s1 ⟨x, H1, I1, r1, q1⟩ => PyProof.Rows.args_nil ?_) hs) hs rfl
  obtain ⟨a, ns, rfl, hq, hlt, q1⟩ := q1
  cases r1
  obtain ⟨its, r, pl, hz⟩ := I1.list hq
  refine set_of_list ns (I1.ok.hd hc) pl.isList (by simpa using ints_vals' r) (by unfold scanBound; omega) fun h2 tk c hS hle hk => ?_
  refine PyProof.Rows.args_nil ?_
  have I2 : Inv X pins σ H1 { s1 with heap := h2, toks := tk } := I1.kept hk
  obtain ⟨o, es, ep, t, ho, hex, hd, g, nd, hmm, hb, hf, hn, hr, hl⟩ := hS
  refine call_len_set ho hex hd hf (by omega) ?_
  refine ⟨.int es.size, H1, I2.kept (t' := tk + 1 + 1) (fun b o z => z), ⟨_, rfl⟩, ?_⟩
  have q2 := q1 (es.toList.map keyOf) nd (fun k => by rw [← hmm k]; exact decide_eq_true_iff)
  rw [List.length_map, Array.length_toList] at q2
  exact q2
def dLenSet (O : Om) (d : D) (Q : Int → Prop) : Prop := optK (lstD O d) fun ds => optK (D.ints ds) fun ns => ns.length < 64 ∧ ∀ ms : List Int, ms.Nodup → (∀ k, k ∈ ms ↔ k ∈ ns) → Q (ms.length : Nat)
def xLenSet (a : TX) : TX := fun G O Q E => a G O (fun d O1 => dLenSet O1 d fun n => Q (.int n) O1) E
theorem rd_lenSet {K : PySem.W.Frag} {W : WX} {te : TE} {t : TX} (h : RdE K W te t) : RdE K W (tLenSet K te) (xLenSet t) := by
  intro al H σ G O Q E R rel env q hq he
  refine h al H σ G O _ E _ rel env q (fun al1 H1 O1 v d s1 rel1 r1 q1 => ?_) he
  obtain ⟨ds, e1, q1⟩ := optK.ex q1
  obtain ⟨ns, e2, h64, q1⟩ := optK.ex q1
  obtain ⟨a, xs, rfl, h1, h2, h3⟩ := lstD_rp rel1 r1 e1
  obtain rfl := h2.intsI e2
  exact ⟨a, ns, rfl, h1, h64, fun ms hn hm => hq _ _ _ _ _ s1 rel1 (.int _) (q1 ms hn hm)⟩
theorem px_lenSet {X : Cx} {W : WX} {e : Expr} {p p2 pos pos2 : Pos} {t : TX} (hm : X.mg "len" = none) (hm2 : X.mg "set" = none) (h : PX X W e t) (hc : X.calm = true := by rfl) (hg : Gl X "len" := by rfl) (hg2 : Gl X "set" := by rfl)
    (hs : starEach [e] X.env = (false, eval e X.env) :: starEach [] X.env := by rfl)
    (hs2 : starEach [.Call (.Name "set" p2) [e] [] pos2] X.env = (false, eval (.Call (.Name "set" p2) [e] [] pos2) X.env) :: starEach [] X.env := by rfl) :
    PX X W (.Call (.Name "len" p) [.Call (.Name "set" p2) [e] [] pos2] [] pos) (xLenSet t) := let ⟨_, p, q⟩ := h; ⟨_, pe_lenSet hc hg hm hg2 hm2 p hs hs2, rd_lenSet q⟩
end Px

namespace Px
open PySem PySem.Spec PyProof.Rows L2
/-! ### items() of a dict with tuple keys, the key as a thing -/
def xItemsT (a : TX) : TIX := fun G O Q E => a G O (fun d O1 => ownK d fun k => optK O1[k]? fun c => fzCTK c fun kvs => (∀ p ∈ kvs, ∀ y ∈ p.1, kOk y) ∧ (∀ p ∈ kvs, p.1.length ≤ 1000) ∧ kvs.length ≤ 1000000 ∧ Q (itemsD kvs) (fun O' => O'[k]? = some c) O1) E
section
variable {K : PySem.W.Frag} {W : WX} {al : AL} {H : Hp} {O : Om}
theorem rd_itemsT {te : TE} {t : TX} (h : RdE K W te t) : RdI K W (iItemsT te) (xItemsT t) := by
  intro al H σ G O Q E R rel env q hq hE
  refine h al H σ G O _ E _ rel env q (fun al1 H1 O1 v d s1 rel1 r1 q1 => ?_) hE
  obtain ⟨k, rfl, q1⟩ := ownK.ex q1
  obtain ⟨oo, vs, kvs, e, hk, hkl, hl, q1⟩ := fzCTK.ex q1
  obtain ⟨a, rfl, ea, hH, hr⟩ := ownZT rel1 r1 e
  have hlen : vs.length = kvs.length := hr.len
  have hdl : (itemsD kvs).length = kvs.length := List.length_map ..
  refine ⟨a, oo, vs, rfl, hH, hq _ _ _ _ _ _ s1 rel1 (fun al2 H2 O2 s2 rel2 g2 => ?_) (by rw [hdl, sizeLine_eq]; omega) q1⟩
  obtain ⟨k1, k2⟩ := fz_laterT ea s2 rel2 g2
  refine ⟨fun i hi => ⟨k1, by rw [hdl] at hi; omega⟩, fun i d hd => ⟨⟨k1, ?_⟩, ?_⟩⟩
  · have := (List.getElem?_eq_some_iff.mp hd).1; rw [hdl] at this; omega
  · rintro x H' ⟨T, key, v, qa, ev, rfl, hT, hqa, rfl⟩
    refine ⟨stp_new rel2.live hT, fun b u hb => upd_keep hT b u hb, ?_⟩
    have hd : (kvs.map fun p => D.tup [.tup (p.1.map keyDD), p.2])[i]? = some d := hd
    rw [List.getElem?_map] at hd
    cases ek : kvs[i]? with
    | none => rw [ek] at hd; cases hd
    | some p =>
      rw [ek] at hd; cases hd
      obtain ⟨v', e1, r⟩ := rpk_at k2 (k := p.1) (d := p.2) ek
      rw [ev] at e1; cases e1
      have hm := List.mem_of_getElem? ek
      refine new_tup rel2 hT (.cons (.tup ⟨fun z => rel2.nt _ z _ hqa, hqa⟩ ?_ (keys_val (hk p hm))) (.cons r .nil)) (by show 2 ≤ sizeLine; decide)
      rw [List.length_map]
      exact Nat.le_trans (hkl p hm) (by rw [sizeLine_eq]; decide)
end
section
variable {X : Cx} {W : WX} {e : Expr} {t : TX} {apos cpos tpos : Pos} {elts : List Expr} {kk : Nat}
theorem pix_itemsT (h : PX X W e t) (hbase : attributeBase e "items" X.env (eval e X.env) = eval e X.env := by rfl) (hline : (apos.endLine == cpos.line) = true := by rfl) : PIX X W (.Tuple elts kk tpos) (.Call (.Attribute e "items" apos) [] [] cpos) (xItemsT t) := let ⟨_, p, q⟩ := h; ⟨_, pi_itemsT p hbase hline, rd_itemsT q⟩
end
end Px

namespace Law
open PySem PySem.Spec PyProof.Rows L2 Px
def topS (i : Nat) : Stmt := PySem.Challenge.pw_oncedoor_k43_lists_by_numbers.main.body.getD i (.Pass ⟨0, 0, 0, 0⟩)
local macro_rules | `(tactic| walk_at "px hp0") => `(tactic| (first | with_reducible assumption | with_reducible exact get_new | assumption | exact get_new | ((apply get_app); focus assumption) | exact get_app get_new | ((apply get_app); focus ((apply get_app); focus assumption)) | exact get_app (get_app get_new)))
local macro_rules | `(tactic| walk_at "px hp") => `(tactic| (first | with_reducible assumption | with_reducible exact get_new | with_reducible exact atI_0 | with_reducible exact atI_1 | with_reducible exact atI_2 | with_reducible exact bools_map _ _ | assumption | exact get_new | ((apply get_app); focus assumption) | exact get_app get_new | ((apply get_app); focus ((apply get_app); focus assumption)) | exact get_app (get_app get_new) | ((apply tyN_l); focus (walk_at "px hp0")) | ((apply tyN_d); focus (walk_at "px hp0")) | ((apply lstD_l); focus (walk_at "px hp0")) | ((apply seqD_l); focus (walk_at "px hp0"))))
local macro_rules | `(tactic| walk_at "px hpw") => `(tactic| (first | with_reducible assumption | assumption | ((apply wkD_l); focus (walk_at "px hp0")) | ((apply lkD_l); focus (walk_at "px hp0")) | ((apply ownW_l); focus (walk_at "px hp0"))))
local macro_rules | `(tactic| walk_at "px sd") => `(tactic| (first | with_reducible assumption | with_reducible exact True.intro | with_reducible exact isTy_s | with_reducible exact isTy_ll | with_reducible exact ok_str | with_reducible exact ok_int | with_reducible exact ok_non | with_reducible exact ok_bl | with_reducible exact oks_strs | ((with_reducible refine ok_snap ?_ ?_) <;> (first | assumption | decide)) | (with_reducible rfl) | ((with_reducible apply isTy_d); focus (walk_at "px hp")) | ((with_reducible apply isTy_l); focus (walk_at "px hp")) | ((with_reducible apply isTy_t); focus (walk_at "px hp")) | ((with_reducible apply Exists.intro); focus ((with_reducible refine And.intro ?_ True.intro); (walk_at "px hp"))) | (show Str.ofString _ = fldN _; rfl) | (show D.ok _ _ = true; rfl) | (show D.oks _ _ = true; rfl) | assumption | (first | exact Nat.le_refl _ | (simp only [List.length_cons, List.length_nil, List.length_append, List.length_map, List.length_range]; omega) | exact (rfl : (List.length _ : Nat) = _) | (walk_at "px hp0") | ((apply isTy_d); focus (walk_at "px hp")) | ((apply isTy_l); focus (walk_at "px hp")) | ((apply Exists.intro); focus ((refine And.intro ?_ True.intro); (walk_at "px hp"))) | exact ok_str | exact ok_int | exact ok_non | exact ok_bl | omega | (unfold CPow; decide) | (exact Or.inr ⟨by decide, by decide⟩) | (unfold CW; decide) | ((try dsimp only); unfold CMul; omega) | ((try dsimp only); unfold CW; omega) | ((try dsimp only); omega) | (refine ⟨?_, ?_⟩ <;> omega))))
local macro_rules | `(tactic| walk_at "px cb") => `(tactic| (first | decide +kernel | (show D.eq (.str _) (.str _) = _; decide +kernel) | (show (!D.eq (.str _) (.str _)) = _; decide +kernel)))
local macro_rules | `(tactic| walk_at "px go") => `(tactic| ((conv => whnf); repeat (((first | ((with_reducible apply optK.mk); focus walk_at "px hp") | ((with_reducible apply optK2.mk); focus walk_at "px hpw") | ((with_reducible refine And.intro ?_ ?_); focus walk_at "px sd") | ((with_reducible refine xite_f ?_ ?_); focus walk_at "px cb") | ((with_reducible refine xite_t ?_ ?_); focus walk_at "px cb") | (apply optK.mk; focus walk_at "px hp") | (apply optK2.mk; focus walk_at "px hpw") | (rw [set_new])); (conv => whnf)))))
abbrev KS : List Nat := [0, 6, 16]
def madeOf (d : D) (s : Str) (m : Int) : Bool := match d with
  | .str x => decide (1 ≤ (x.length : Int)) && decide ((x.length : Int) ≤ m) && x.cps.toList.all fun c => decide (c ∈ s.cps.toList)
  | _ => false
theorem madeOf_str {x s : Str} {m : Int} : madeOf (.str x) s m = (decide (1 ≤ (x.length : Int)) && decide ((x.length : Int) ≤ m) && x.cps.toList.all fun c => decide (c ∈ s.cps.toList)) := rfl
theorem tyN_ns {O : Om} {k : Nat} : tyN O (.own k) ≠ some .tStr := by
  show O[k]?.bind tyC ≠ _
  cases O[k]? with
  | none => intro h; cases h
  | some c => cases c <;> (intro h; cases h)

def IsNm (x : Str) : Prop := madeOf (.str x) "abcdefghijklmnopqrstuvwxyz" 8 = true
theorem small_all : ("abcdefghijklmnopqrstuvwxyz" : Str).cps.toList = [97, 98, 99, 100, 101, 102, 103, 104, 105, 106, 107, 108, 109, 110, 111, 112, 113, 114, 115, 116, 117, 118, 119, 120, 121, 122] := by decide +kernel
theorem small_mem {c : Nat} : c ∈ ("abcdefghijklmnopqrstuvwxyz" : Str).cps.toList ↔ 97 ≤ c ∧ c ≤ 122 := by
  rw [small_all]
  simp only [List.mem_cons, List.not_mem_nil, or_false]
  omega
theorem isNm_iff {x : Str} : IsNm x ↔ 1 ≤ x.length ∧ x.length ≤ 8 ∧ ∀ c ∈ x.cps.toList, 97 ≤ c ∧ c ≤ 122 := by
  unfold IsNm
  rw [madeOf_str, Bool.and_eq_true, Bool.and_eq_true, decide_eq_true_iff, decide_eq_true_iff, List.all_eq_true]
  constructor
  · rintro ⟨⟨h1, h2⟩, h3⟩
    exact ⟨by omega, by omega, fun c hc => small_mem.mp (of_decide_eq_true (h3 c hc))⟩
  · rintro ⟨h1, h2, h3⟩
    exact ⟨⟨by omega, by omega⟩, fun c hc => decide_eq_true (small_mem.mpr (h3 c hc))⟩
theorem pick_all {α : Type} {P : α → Prop} {xs : List D} {φ : α → D} {i : Int} (l : List α) (e : xs = l.map φ) (h : ∀ a ∈ l, P a) (h0 : 0 ≤ i) (h1 : i < xs.length) : ∃ a, P a ∧ atI xs i = some (φ a) := by
  subst e
  obtain ⟨d, hd, e⟩ := atI_pick h0 h1
  obtain ⟨a, ha, rfl⟩ := List.mem_map.mp hd
  exact ⟨a, h a ha, e⟩


abbrev Pr := Str × Str
/-- what stands under an asker and a key: number, deed, and the turn and the answer -/
abbrev Ent := Int × D × Option (Int × D)
abbrev Sts := List (Pr × Ent)
def entD (e : Ent) : D := match e.2.2 with
  | none => .tup [.str "busy", .int e.1, .non, e.2.1, .non]
  | some (t, a) => .tup [.str "kept", .int e.1, .int t, e.2.1, a]
def prD (p : Pr) : D := .tup [.str p.1, .str p.2]
def kyP (p : Pr) : List Key := [.inr p.1, .inr p.2]
def stP (st : Sts) : List (List Key × D) := st.map fun p => (kyP p.1, entD p.2)
theorem cls_prs {a b : Str} {n : Nat} (k1 k2 : List Str) : D.cl n (.lst ((k1.map fun k => prD (a, k)) ++ k2.map fun k => prD (b, k))) = true := by
  show D.cls n ((k1.map fun k => prD (a, k)) ++ k2.map fun k => prD (b, k)) = true
  induction k1 with
  | nil =>
    induction k2 with
    | nil => rfl
    | cons x k2 ih => exact ih
  | cons x k1 ih => exact ih
theorem set_midK {O Z : Om} {c c' : Cell} : (O ++ [c] ++ Z).set O.length c' = O ++ [c'] ++ Z := by
  rw [List.append_assoc, List.append_assoc, List.set_append_right _ _ (Nat.le_refl _), Nat.sub_self]; rfl
structure keysAt (O : Om) (k kd : Nat) (life : Int) (st : Sts) : Prop where
  h : O[k]? = some (.ins 23 [.int life, .own kd])
  d : O[kd]? = some (.dT (stP st))
theorem kyP_inj {p q : Pr} (h : kyP p = kyP q) : p = q := by
  obtain ⟨a, b⟩ := p
  obtain ⟨c, d⟩ := q
  have h : [(Sum.inr a : Key), .inr b] = [.inr c, .inr d] := h
  simp only [List.cons.injEq, Sum.inr.injEq, and_true] at h
  rw [h.1, h.2]
section
variable {β : Type}
theorem valD_T : ∀ (st : Sts) (p : Pr), valD (stP st) (kyP p) = (valD st p).map entD
  | [], _ => rfl
  | q :: st, p => by
    by_cases e : q.1 = p
    · rw [show stP (q :: st) = (kyP q.1, entD q.2) :: stP st from rfl, valD_pos (p := (kyP q.1, entD q.2)) (by rw [e]), valD_pos e]; rfl
    · rw [show stP (q :: st) = (kyP q.1, entD q.2) :: stP st from rfl, valD_neg (p := (kyP q.1, entD q.2)) (fun z => e (kyP_inj z)), valD_neg e]; exact valD_T st p
theorem putD_T (st : Sts) (p : Pr) (e : Ent) : putD (stP st) (kyP p) (entD e) = stP (putD st p e) := by
  have e1 : ((stP st).any fun kv => decide (kv.1 = kyP p)) = st.any fun q => decide (q.1 = p) := by
    unfold stP
    rw [List.any_map]
    refine congrArg (fun f => st.any f) (funext fun q => ?_)
    show decide (kyP q.1 = kyP p) = decide (q.1 = p)
    exact decide_eq_decide.mpr ⟨fun z => kyP_inj z, fun z => by rw [z]⟩
  unfold putD
  rw [e1]
  split
  · unfold stP
    rw [List.map_map, List.map_map]
    refine List.map_congr_left fun q _ => ?_
    show (if kyP q.1 = kyP p then (kyP q.1, entD e) else (kyP q.1, entD q.2)) = (fun q : Pr × Ent => (kyP q.1, entD q.2)) (if q.1 = p then (q.1, e) else q)
    by_cases h : q.1 = p
    · rw [if_pos h, if_pos (by rw [h])]
    · rw [if_neg h, if_neg (fun z => h (kyP_inj z))]
  · unfold stP; rw [List.map_append]; rfl
theorem dropD_T (st : Sts) (p : Pr) : dropD (stP st) (kyP p) = stP (dropD st p) := by
  unfold dropD stP
  rw [List.filter_map]
  refine congrArg _ (List.filter_congr fun q _ => ?_)
  by_cases h : q.1 = p
  · simp [h]
  · have : ¬ kyP q.1 = kyP p := fun z => h (kyP_inj z)
    simp [h, this]
theorem st_len {st : Sts} : (stP st).length = st.length := List.length_map _
end
def overB (life : Int) (e : Ent) (t : Int) : Bool := match e.2.2 with
  | none => false
  | some (t0, _) => decide (t0 + life ≤ t)
def busyB (o : Option Ent) : Bool := match o with
  | some (_, _, none) => true
  | _ => false
theorem busy_some {o : Option Ent} (h : busyB o = true) : ∃ n d, o = some (n, d, none) := by
  match o, h with
  | some (n, d, none), _ => exact ⟨n, d, rfl⟩
def lookD (life : Int) (o : Option Ent) (t : Int) : D := match o with
  | none => .tup [.str "free"]
  | some (n, d, none) => .tup [.str "busy", .int n, d]
  | some (n, d, some (t0, a)) => if t0 + life ≤ t then .tup [.str "free"] else .tup [.str "kept", .int n, d, a]

/-! ### Keys.__init__ -/
abbrev s_Keys_init : Stmt := inClass (topS 6) 0
theorem sc_Keys_init : FnScope ["self", "life"] ["self", "life"] (defScope s_Keys_init) := ⟨rfl, rfl, rfl, by decide +kernel, rfl, by decide +kernel, by decide +kernel⟩
def T_Keys_init : SpX := fun ds O Q E => match ds with
  | [.own k, .int l] => ∃ O1, O = O1 ++ [.ins 23 []] ∧ k = O1.length ∧ Q .non (O1 ++ [.ins 23 [.int l, .own (O1.length + 1)]] ++ [.dT []])
  | _ => False
theorem len_Keys_init : ∀ ds O Q E, T_Keys_init ds O Q E → ds.length = 2 := fun ds O Q E h => by
  match ds, h with
  | [.own k, .int l], _ => rfl
theorem ok_Keys_init {P : Program} {w : World} {K : PySem.W.Frag} {mg : Str → Option Value} {base : Heap} {f : Addr} {fd : FuncData} (F : Fun K "__init__" "Keys.__init__" s_Keys_init f fd)     (CF_Keys : CF K 23) :
    FnX P w K mg base 1 f fd ["self", "life"] T_Keys_init := by
  skip
  refine fnx_of F sc_Keys_init (len_Keys_init) _ (fun cdv A outer s H E hr => by
    have tk : Takes (cxOf (L2.CX P w) P w K mg base ["self", "life"] "Keys.__init__" (defScope s_Keys_init) f cdv A outer s H E) (W0 E) := takes_of rfl rfl rfl rfl
    have po : PassesOwn (model P w) (A.deeper (envOfC "Keys.__init__" (defScope s_Keys_init) s.heap.objs.size f cdv)) (envOfC "Keys.__init__" (defScope s_Keys_init) s.heap.objs.size f cdv) (cxOf (L2.CX P w) P w K mg base ["self", "life"] "Keys.__init__" (defScope s_Keys_init) f cdv A outer s H E).xe := passes_of rfl
    exact (psx_cons (psx_fld (j := 23) (i := 0) CF_Keys (xv 0) (xv 1))
      (psx_cons (psx_fld (j := 23) (i := 1) CF_Keys (xv 0) px_dnewT)
      psx_nil))) ?_
  intro ds O Q E h hcl
  match ds, h with
  | [.own k, .int l], h =>
    replace h : ∃ O1, O = O1 ++ [.ins 23 []] ∧ k = O1.length ∧ Q .non (O1 ++ [.ins 23 [.int l, .own (O1.length + 1)]] ++ [.dT []]) := h
    obtain ⟨O1, rfl, rfl, q⟩ := h
    walk_at "px go"
    rw [set_midK, List.length_append]
    exact .inl q
/-! ### Keys.is_busy -/
abbrev s_Keys_is_busy : Stmt := inClass (topS 6) 3
theorem sc_Keys_is_busy : FnScope ["self", "asker", "key"] ["self", "asker", "key"] (defScope s_Keys_is_busy) := ⟨rfl, rfl, rfl, by decide +kernel, rfl, by decide +kernel, by decide +kernel⟩
def T_Keys_is_busy : SpX := fun ds O Q E => match ds with
  | [.own k, .str x, .str y] => ∃ kd life st, keysAt O k kd life st ∧ Q (.bl (busyB (valD st (x, y)))) O
  | _ => False
theorem len_Keys_is_busy : ∀ ds O Q E, T_Keys_is_busy ds O Q E → ds.length = 3 := fun ds O Q E h => by
  match ds, h with
  | [.own k, .str x, .str y], _ => rfl
theorem ok_Keys_is_busy {P : Program} {w : World} {K : PySem.W.Frag} {mg : Str → Option Value} {base : Heap} {f : Addr} {fd : FuncData} (F : Fun K "is_busy" "Keys.is_busy" s_Keys_is_busy f fd)     (CF_Keys : CF K 23) :
    FnX P w K mg base 1 f fd ["self", "asker", "key"] T_Keys_is_busy := by
  skip
  refine fnx_of F sc_Keys_is_busy (len_Keys_is_busy) _ (fun cdv A outer s H E hr => by
    have tk : Takes (cxOf (L2.CX P w) P w K mg base ["self", "asker", "key"] "Keys.is_busy" (defScope s_Keys_is_busy) f cdv A outer s H E) (W0 E) := takes_of rfl rfl rfl rfl
    have po : PassesOwn (model P w) (A.deeper (envOfC "Keys.is_busy" (defScope s_Keys_is_busy) s.heap.objs.size f cdv)) (envOfC "Keys.is_busy" (defScope s_Keys_is_busy) s.heap.objs.size f cdv) (cxOf (L2.CX P w) P w K mg base ["self", "asker", "key"] "Keys.is_busy" (defScope s_Keys_is_busy) f cdv A outer s H E).xe := passes_of rfl
    exact (psx_cons (psx_ret (px_and (px_cmp (c_inTD hr.u) (px_tup (pax_cons (xv 1) (pax_cons (xv 2) pax_nil))) (px_fld (j := 23) (i := 1) CF_Keys (xv 0))) (px_one (px_cmp (c_eq hr.u) (px_ixA hr.u (px_ixT hr.u (px_fld (j := 23) (i := 1) CF_Keys (xv 0)) (px_tup (pax_cons (xv 1) (pax_cons (xv 2) pax_nil)))) px_int) px_str))))
      psx_nil)) ?_
  intro ds O Q E h hcl
  match ds, h with
  | [.own k, .str x, .str y], h =>
    replace h : ∃ kd life st, keysAt O k kd life st ∧ Q (.bl (busyB (valD st (x, y)))) O := h
    obtain ⟨kd, life, st, hk, q⟩ := h
    obtain ⟨k1, k2⟩ := id hk
    have ev := valD_T st (x, y)
    rw [show kyP (x, y) = [.inr x, .inr y] from rfl] at ev
    walk_at "px go"
    cases hv : valD st (x, y) with
    | none =>
      rw [hv] at q
      rw [hv] at ev
      have ev : valD (stP st) [Sum.inr x, Sum.inr y] = none := ev
      rw [ev]
      walk_at "px go"
      exact .inl q
    | some e =>
      obtain ⟨n, d, o⟩ := e
      rw [hv] at q
      rw [hv] at ev
      cases o with
      | none =>
        have ev : valD (stP st) [Sum.inr x, Sum.inr y] = some (.tup [.str "busy", .int n, .non, d, .non]) := ev
        rw [ev]
        walk_at "px go"
        exact .inl q
      | some p =>
        obtain ⟨t0, a⟩ := p
        have ev : valD (stP st) [Sum.inr x, Sum.inr y] = some (.tup [.str "kept", .int n, .int t0, d, a]) := ev
        rw [ev]
        walk_at "px go"
        exact .inl q
abbrev s_Busy_init : Stmt := inClass (topS 4) 0
theorem sc_Busy_init : FnScope ["self", "number"] ["self", "number"] (defScope s_Busy_init) := ⟨rfl, rfl, rfl, by decide +kernel, rfl, by decide +kernel, by decide +kernel⟩
theorem ok_Busy_init {P : Program} {w : World} {K : PySem.W.Frag} {mg : Str → Option Value} {base : Heap} {f C0 : Addr} {fd : FuncData} (F : Fun K "__init__" "Busy.__init__" s_Busy_init f fd) (B : BaseX K C0) (hm : mg "DoorError" = some (.ref C0)) : FnOk P w K mg base (L2.CX P w) 1 f fd ["self", "number"] (spNC K "number") := by
  refine F.okX sc_Busy_init (fun vs H Q E h => ?_) (fun cdv A outer s H vs Q E hr h => ?_)
  · obtain ⟨a, C, v, rfl, _⟩ := h
    rfl
  · obtain ⟨a, C, v, rfl, T, e, hno, k⟩ := h
    refine ⟨_, pss_cons (ps_expr (pe_dinit B rfl hm (pa_cons (pv 0) (pa_cons pe_str pa_nil)))) (pss_one (ps_ost (pv 0) (pv 1))), ?_⟩
    refine ⟨_, rfl, a, C, [V.str _], rfl, by decide, T, e, ?_⟩
    exact ⟨_, rfl, _, rfl, a, C, rfl, T, hno, .inl ⟨e, k⟩⟩
/-! ### Keys.begin -/
abbrev s_Keys_begin : Stmt := inClass (topS 6) 4
theorem sc_Keys_begin : FnScope ["self", "asker", "key", "number", "deed"] ["self", "asker", "key", "number", "deed"] (defScope s_Keys_begin) := ⟨rfl, rfl, rfl, by decide +kernel, rfl, by decide +kernel, by decide +kernel⟩
def T_Keys_begin : SpX := fun ds O Q E => match ds with
  | [.own k, .str x, .str y, .int n, d] => ∃ kd life st, keysAt O k kd life st ∧ st.length ≤ 1000 ∧ (∀ n0 d0, valD st (x, y) = some (n0, d0, none) → E ⟨16, [.int n0]⟩ O) ∧ (busyB (valD st (x, y)) = false → Q .non (O.set kd (.dT (stP (putD st (x, y) (n, d, none))))))
  | _ => False
theorem len_Keys_begin : ∀ ds O Q E, T_Keys_begin ds O Q E → ds.length = 5 := fun ds O Q E h => by
  match ds, h with
  | [.own k, .str x, .str y, .int n, d], _ => rfl
theorem ok_Keys_begin {P : Program} {w : World} {K : PySem.W.Frag} {mg : Str → Option Value} {base : Heap} {f : Addr} {fd : FuncData} (F : Fun K "begin" "Keys.begin" s_Keys_begin f fd)     (CF_Keys : CF K 23) (MC_Keys_is_busy_0 : MC P w K mg base 23 "is_busy" 1 ["self", "asker", "key"] [] T_Keys_is_busy) (RZ_Busy : RzC P w K mg base "Busy" 16) :
    FnX P w K mg base 3 f fd ["self", "asker", "key", "number", "deed"] T_Keys_begin := by
  skip
  refine fnx_of F sc_Keys_begin (len_Keys_begin) _ (fun cdv A outer s H E hr => by
    have tk : Takes (cxOf (L2.CX P w) P w K mg base ["self", "asker", "key", "number", "deed"] "Keys.begin" (defScope s_Keys_begin) f cdv A outer s H E) (W0 E) := takes_of rfl rfl rfl rfl
    have po : PassesOwn (model P w) (A.deeper (envOfC "Keys.begin" (defScope s_Keys_begin) s.heap.objs.size f cdv)) (envOfC "Keys.begin" (defScope s_Keys_begin) s.heap.objs.size f cdv) (cxOf (L2.CX P w) P w K mg base ["self", "asker", "key", "number", "deed"] "Keys.begin" (defScope s_Keys_begin) f cdv A outer s H E).xe := passes_of rfl
    exact (psx_cons (psx_if (ptx_tru (px_meth MC_Keys_is_busy_0 CF_Keys hr tk (xv 0) (pax_cons (xv 1) (pax_cons (xv 2) pax_nil)))) (psx_cons (psx_raiseV RZ_Busy hr tk (pax_cons (px_ixA hr.u (px_ixT hr.u (px_fld (j := 23) (i := 1) CF_Keys (xv 0)) (px_tup (pax_cons (xv 1) (pax_cons (xv 2) pax_nil)))) px_int) pax_nil))
      psx_nil) psx_nil)
      (psx_cons (psx_asg (px_tup (pax_cons px_str (pax_cons (xv 3) (pax_cons px_non (pax_cons (xv 4) (pax_cons px_non pax_nil)))))) (pgx_subT hr.u (px_fld (j := 23) (i := 1) CF_Keys (xv 0)) (px_tup (pax_cons (xv 1) (pax_cons (xv 2) pax_nil)))))
      psx_nil))) ?_
  intro ds O Q E h hcl
  match ds, h with
  | [.own k, .str x, .str y, .int n, d], h =>
    replace h : ∃ kd life st, keysAt O k kd life st ∧ st.length ≤ 1000 ∧ (∀ n0 d0, valD st (x, y) = some (n0, d0, none) → E ⟨16, [.int n0]⟩ O) ∧ (busyB (valD st (x, y)) = false → Q .non (O.set kd (.dT (stP (putD st (x, y) (n, d, none)))))) := h
    obtain ⟨kd, life, st, hk, hl, q1, q2⟩ := h
    obtain ⟨k1, k2⟩ := id hk
    walk_at "px go"
    refine ⟨kd, life, st, hk, ?_⟩
    cases hb : busyB (valD st (x, y)) with
    | true =>
      obtain ⟨n0, d0, hv⟩ := busy_some hb
      have q1 := q1 n0 d0 hv
      have ev : valD (stP st) [Sum.inr x, Sum.inr y] = some (.tup [.str "busy", .int n0, .non, d0, .non]) := (valD_T st (x, y)).trans (by rw [hv]; rfl)
      walk_at "px go"
      exact q1
    | false =>
      have q2 := q2 hb
      walk_at "px go"
      refine ⟨by rw [st_len]; omega, ?_⟩
      rw [show (D.tup [.str "busy", .int n, .non, d, .non]) = entD (n, d, none) from rfl, show [(Sum.inr x : Key), Sum.inr y] = kyP (x, y) from rfl, putD_T]
      exact .inl q2
/-! ### Keys.must_be_busy -/
abbrev s_Keys_must_be_busy : Stmt := inClass (topS 6) 5
theorem sc_Keys_must_be_busy : FnScope ["self", "asker", "key"] ["self", "asker", "key"] (defScope s_Keys_must_be_busy) := ⟨rfl, rfl, rfl, by decide +kernel, rfl, by decide +kernel, by decide +kernel⟩
def T_Keys_must_be_busy : SpX := fun ds O Q E => match ds with
  | [.own k, .str x, .str y] => ∃ kd life st, keysAt O k kd life st ∧ (busyB (valD st (x, y)) = false → E ⟨6, []⟩ O) ∧ (busyB (valD st (x, y)) = true → Q .non O)
  | _ => False
theorem len_Keys_must_be_busy : ∀ ds O Q E, T_Keys_must_be_busy ds O Q E → ds.length = 3 := fun ds O Q E h => by
  match ds, h with
  | [.own k, .str x, .str y], _ => rfl
theorem ok_Keys_must_be_busy {P : Program} {w : World} {K : PySem.W.Frag} {mg : Str → Option Value} {base : Heap} {f : Addr} {fd : FuncData} (F : Fun K "must_be_busy" "Keys.must_be_busy" s_Keys_must_be_busy f fd)    (e_NoAsk : OwnX K mg "NoAsk" (clA K 6)) (CF_Keys : CF K 23) (MC_Keys_is_busy_0 : MC P w K mg base 23 "is_busy" 1 ["self", "asker", "key"] [] T_Keys_is_busy) :
    FnX P w K mg base 2 f fd ["self", "asker", "key"] T_Keys_must_be_busy := by
  skip
  refine fnx_of F sc_Keys_must_be_busy (len_Keys_must_be_busy) _ (fun cdv A outer s H E hr => by
    have tk : Takes (cxOf (L2.CX P w) P w K mg base ["self", "asker", "key"] "Keys.must_be_busy" (defScope s_Keys_must_be_busy) f cdv A outer s H E) (W0 E) := takes_of rfl rfl rfl rfl
    have po : PassesOwn (model P w) (A.deeper (envOfC "Keys.must_be_busy" (defScope s_Keys_must_be_busy) s.heap.objs.size f cdv)) (envOfC "Keys.must_be_busy" (defScope s_Keys_must_be_busy) s.heap.objs.size f cdv) (cxOf (L2.CX P w) P w K mg base ["self", "asker", "key"] "Keys.must_be_busy" (defScope s_Keys_must_be_busy) f cdv A outer s H E).xe := passes_of rfl
    exact (psx_cons (psx_if (ptx_not (ptx_tru (px_meth MC_Keys_is_busy_0 CF_Keys hr tk (xv 0) (pax_cons (xv 1) (pax_cons (xv 2) pax_nil))))) (psx_cons (psx_raise e_NoAsk tk)
      psx_nil) psx_nil)
      psx_nil)) ?_
  intro ds O Q E h hcl
  match ds, h with
  | [.own k, .str x, .str y], h =>
    replace h : ∃ kd life st, keysAt O k kd life st ∧ (busyB (valD st (x, y)) = false → E ⟨6, []⟩ O) ∧ (busyB (valD st (x, y)) = true → Q .non O) := h
    obtain ⟨kd, life, st, hk, q1, q2⟩ := h
    obtain ⟨k1, k2⟩ := id hk
    walk_at "px go"
    refine ⟨kd, life, st, hk, ?_⟩
    cases hb : busyB (valD st (x, y)) with
    | true =>
      have q2 := q2 hb
      walk_at "px go"
      exact .inl q2
    | false =>
      have q1 := q1 hb
      walk_at "px go"
      exact q1
/-! ### Keys.drop -/
abbrev s_Keys_drop : Stmt := inClass (topS 6) 6
theorem sc_Keys_drop : FnScope ["self", "asker", "key"] ["self", "asker", "key"] (defScope s_Keys_drop) := ⟨rfl, rfl, rfl, by decide +kernel, rfl, by decide +kernel, by decide +kernel⟩
def T_Keys_drop : SpX := fun ds O Q E => match ds with
  | [.own k, .str x, .str y] => ∃ kd life st, keysAt O k kd life st ∧ (busyB (valD st (x, y)) = false → E ⟨6, []⟩ O) ∧ (busyB (valD st (x, y)) = true → Q .non (O.set kd (.dT (stP (dropD st (x, y))))))
  | _ => False
theorem len_Keys_drop : ∀ ds O Q E, T_Keys_drop ds O Q E → ds.length = 3 := fun ds O Q E h => by
  match ds, h with
  | [.own k, .str x, .str y], _ => rfl
theorem ok_Keys_drop {P : Program} {w : World} {K : PySem.W.Frag} {mg : Str → Option Value} {base : Heap} {f : Addr} {fd : FuncData} (F : Fun K "drop" "Keys.drop" s_Keys_drop f fd)     (CF_Keys : CF K 23) (MC_Keys_must_be_busy_0 : MC P w K mg base 23 "must_be_busy" 2 ["self", "asker", "key"] [] T_Keys_must_be_busy) :
    FnX P w K mg base 3 f fd ["self", "asker", "key"] T_Keys_drop := by
  skip
  refine fnx_of F sc_Keys_drop (len_Keys_drop) _ (fun cdv A outer s H E hr => by
    have tk : Takes (cxOf (L2.CX P w) P w K mg base ["self", "asker", "key"] "Keys.drop" (defScope s_Keys_drop) f cdv A outer s H E) (W0 E) := takes_of rfl rfl rfl rfl
    have po : PassesOwn (model P w) (A.deeper (envOfC "Keys.drop" (defScope s_Keys_drop) s.heap.objs.size f cdv)) (envOfC "Keys.drop" (defScope s_Keys_drop) s.heap.objs.size f cdv) (cxOf (L2.CX P w) P w K mg base ["self", "asker", "key"] "Keys.drop" (defScope s_Keys_drop) f cdv A outer s H E).xe := passes_of rfl
    exact (psx_cons (psx_expr (px_meth MC_Keys_must_be_busy_0 CF_Keys hr tk (xv 0) (pax_cons (xv 1) (pax_cons (xv 2) pax_nil))))
      (psx_cons (psx_expr (px_bm PySem.F.plainAttrs_dict PySem.F.slot_dict_pop PySem.F.type_dict_pop (m_dpopT hr.u) (px_fld (j := 23) (i := 1) CF_Keys (xv 0)) (pax_cons (px_tup (pax_cons (xv 1) (pax_cons (xv 2) pax_nil))) pax_nil)))
      psx_nil))) ?_
  intro ds O Q E h hcl
  match ds, h with
  | [.own k, .str x, .str y], h =>
    replace h : ∃ kd life st, keysAt O k kd life st ∧ (busyB (valD st (x, y)) = false → E ⟨6, []⟩ O) ∧ (busyB (valD st (x, y)) = true → Q .non (O.set kd (.dT (stP (dropD st (x, y)))))) := h
    obtain ⟨kd, life, st, hk, q1, q2⟩ := h
    obtain ⟨k1, k2⟩ := id hk
    walk_at "px go"
    refine ⟨kd, life, st, hk, q1, fun hb => ?_⟩
    have q2 := q2 hb
    obtain ⟨n0, d0, hv⟩ := busy_some hb
    have ev : valD (stP st) [Sum.inr x, Sum.inr y] = some (.tup [.str "busy", .int n0, .non, d0, .non]) := (valD_T st (x, y)).trans (by rw [hv]; rfl)
    walk_at "px go"
    rw [show [(Sum.inr x : Key), Sum.inr y] = kyP (x, y) from rfl, dropD_T]
    exact .inl q2
/-! ### Keys.settle -/
abbrev s_Keys_settle : Stmt := inClass (topS 6) 7
theorem sc_Keys_settle : FnScope ["self", "asker", "key", "turn", "answer", "word", "number", "nothing", "deed", "none"] ["self", "asker", "key", "turn", "answer"] (defScope s_Keys_settle) := ⟨rfl, rfl, rfl, by decide +kernel, rfl, by decide +kernel, by decide +kernel⟩
def T_Keys_settle : SpX := fun ds O Q E => match ds with
  | [.own k, .str x, .str y, .int t, a] => ∃ kd life st, keysAt O k kd life st ∧ st.length ≤ 1000 ∧ (busyB (valD st (x, y)) = false → E ⟨6, []⟩ O) ∧ (∀ n d, valD st (x, y) = some (n, d, none) → Q .non (O.set kd (.dT (stP (putD st (x, y) (n, d, some (t, a)))))))
  | _ => False
theorem len_Keys_settle : ∀ ds O Q E, T_Keys_settle ds O Q E → ds.length = 5 := fun ds O Q E h => by
  match ds, h with
  | [.own k, .str x, .str y, .int t, a], _ => rfl
theorem ok_Keys_settle {P : Program} {w : World} {K : PySem.W.Frag} {mg : Str → Option Value} {base : Heap} {f : Addr} {fd : FuncData} (F : Fun K "settle" "Keys.settle" s_Keys_settle f fd)     (CF_Keys : CF K 23) (MC_Keys_must_be_busy_0 : MC P w K mg base 23 "must_be_busy" 2 ["self", "asker", "key"] [] T_Keys_must_be_busy) :
    FnX P w K mg base 3 f fd ["self", "asker", "key", "turn", "answer"] T_Keys_settle := by
  skip
  refine fnx_of F sc_Keys_settle (len_Keys_settle) _ (fun cdv A outer s H E hr => by
    have tk : Takes (cxOf (L2.CX P w) P w K mg base ["self", "asker", "key", "turn", "answer", "word", "number", "nothing", "deed", "none"] "Keys.settle" (defScope s_Keys_settle) f cdv A outer s H E) (W0 E) := takes_of rfl rfl rfl rfl
    have po : PassesOwn (model P w) (A.deeper (envOfC "Keys.settle" (defScope s_Keys_settle) s.heap.objs.size f cdv)) (envOfC "Keys.settle" (defScope s_Keys_settle) s.heap.objs.size f cdv) (cxOf (L2.CX P w) P w K mg base ["self", "asker", "key", "turn", "answer", "word", "number", "nothing", "deed", "none"] "Keys.settle" (defScope s_Keys_settle) f cdv A outer s H E).xe := passes_of rfl
    exact (psx_cons (psx_expr (px_meth MC_Keys_must_be_busy_0 CF_Keys hr tk (xv 0) (pax_cons (xv 1) (pax_cons (xv 2) pax_nil))))
      (psx_cons (psx_asg (px_ixT hr.u (px_fld (j := 23) (i := 1) CF_Keys (xv 0)) (px_tup (pax_cons (xv 1) (pax_cons (xv 2) pax_nil)))) (pgx_seq (n := 5) rfl (pgsx_cons (i := 5) sc_Keys_settle.nd rfl (Or.inl rfl) (pgsx_cons (i := 6) sc_Keys_settle.nd rfl (Or.inl rfl) (pgsx_cons (i := 7) sc_Keys_settle.nd rfl (Or.inl rfl) (pgsx_cons (i := 8) sc_Keys_settle.nd rfl (Or.inl rfl) (pgsx_cons (i := 9) sc_Keys_settle.nd rfl (Or.inl rfl) pgsx_nil)))))))
      (psx_cons (psx_asg (px_tup (pax_cons px_str (pax_cons (xv 6) (pax_cons (xv 3) (pax_cons (xv 8) (pax_cons (xv 4) pax_nil)))))) (pgx_subT hr.u (px_fld (j := 23) (i := 1) CF_Keys (xv 0)) (px_tup (pax_cons (xv 1) (pax_cons (xv 2) pax_nil)))))
      psx_nil)))) ?_
  intro ds O Q E h hcl
  match ds, h with
  | [.own k, .str x, .str y, .int t, a], h =>
    replace h : ∃ kd life st, keysAt O k kd life st ∧ st.length ≤ 1000 ∧ (busyB (valD st (x, y)) = false → E ⟨6, []⟩ O) ∧ (∀ n d, valD st (x, y) = some (n, d, none) → Q .non (O.set kd (.dT (stP (putD st (x, y) (n, d, some (t, a))))))) := h
    obtain ⟨kd, life, st, hk, hl, q1, q2⟩ := h
    obtain ⟨k1, k2⟩ := id hk
    walk_at "px go"
    refine ⟨kd, life, st, hk, q1, fun hb => ?_⟩
    obtain ⟨n0, d0, hv⟩ := busy_some hb
    have q2 := q2 n0 d0 hv
    have ev : valD (stP st) [Sum.inr x, Sum.inr y] = some (.tup [.str "busy", .int n0, .non, d0, .non]) := (valD_T st (x, y)).trans (by rw [hv]; rfl)
    walk_at "px go"
    refine ⟨by rw [st_len]; omega, ?_⟩
    rw [show (D.tup [.str "kept", .int n0, .int t, d0, a]) = entD (n0, d0, some (t, a)) from rfl, show [(Sum.inr x : Key), Sum.inr y] = kyP (x, y) from rfl, putD_T]
    exact .inl q2
/-- what is kept at a turn, in the order of the table -/
def keptE (life t : Int) (e : Pr × Ent) : Option D := match e.2.2.2 with
  | some (t0, a) => if t < t0 + life then some (.tup [.int e.2.1, .int t0, .str e.1.1, .str e.1.2, e.2.2.1, a]) else none
  | none => none
def keptL (life t : Int) (st : Sts) : List D := st.filterMap (keptE life t)
def undE (e : Pr × Ent) : Option D := match e.2.2.2 with
  | some _ => none
  | none => some (.tup [.int e.2.1, .str e.1.1, .str e.1.2, e.2.2.1])
def undL (st : Sts) : List D := st.filterMap undE
/-- names as they may stand, things that are closed -/
structure StC (st : Sts) : Prop where
  sok : ∀ e ∈ st, SOk e.1.1 ∧ SOk e.1.2
  cd : ∀ e ∈ st, ∀ n, e.2.2.1.cl n = true
  ca : ∀ e ∈ st, ∀ t a, e.2.2.2 = some (t, a) → ∀ n, a.cl n = true
theorem cls_all {n : Nat} : ∀ {l : List D}, (∀ d ∈ l, d.cl n = true) → D.cls n l = true
  | [], _ => rfl
  | d :: l, h => by
    show (d.cl n && D.cls n l) = true
    rw [h d (.head _), cls_all fun x hx => h x (.tail _ hx)]; rfl
theorem kept_one {life t : Int} {st : Sts} {d : D} (h : d ∈ keptL life t st) : ∃ e ∈ st, ∃ t0 a, e.2.2.2 = some (t0, a) ∧ t < t0 + life ∧ d = .tup [.int e.2.1, .int t0, .str e.1.1, .str e.1.2, e.2.2.1, a] := by
  obtain ⟨e, he, hd⟩ := List.mem_filterMap.mp h
  unfold keptE at hd
  split at hd
  · rename_i t0 a eq
    split at hd
    · rename_i w
      exact ⟨e, he, t0, a, eq, w, (Option.some.inj hd).symm⟩
    · cases hd
  · cases hd
theorem und_one {st : Sts} {d : D} (h : d ∈ undL st) : ∃ e ∈ st, e.2.2.2 = none ∧ d = .tup [.int e.2.1, .str e.1.1, .str e.1.2, e.2.2.1] := by
  obtain ⟨e, he, hd⟩ := List.mem_filterMap.mp h
  unfold undE at hd
  split at hd
  · cases hd
  · rename_i eq
    exact ⟨e, he, eq, (Option.some.inj hd).symm⟩
theorem kept_cl {life t : Int} {st : Sts} (c : StC st) (n : Nat) : ∀ d ∈ keptL life t st, d.cl n = true := fun d hd => by
  obtain ⟨e, he, t0, a, h1, h2, rfl⟩ := kept_one hd
  show (true && (true && (true && (true && (e.2.2.1.cl n && (a.cl n && true)))))) = true
  rw [c.cd e he n, c.ca e he _ _ h1 n]; rfl
theorem und_cl {st : Sts} (c : StC st) (n : Nat) : ∀ d ∈ undL st, d.cl n = true := fun d hd => by
  obtain ⟨e, he, h1, rfl⟩ := und_one hd
  show (true && (true && (true && (e.2.2.1.cl n && true)))) = true
  rw [c.cd e he n]; rfl
theorem set_fin {O1 : Om} {n : Nat} {c c' : Cell} (h : O1.length = n) : (O1 ++ [c]).set n c' = O1 ++ [c'] := by
  subst h
  rw [List.set_append_right _ _ (Nat.le_refl _), Nat.sub_self]; rfl

/-! ### Keys.kept -/
abbrev s_Keys_kept : Stmt := inClass (topS 6) 8
theorem sc_Keys_kept : FnScope ["self", "turn", "found", "asker", "key", "word", "number", "when", "deed", "answer"] ["self", "turn"] (defScope s_Keys_kept) := ⟨rfl, rfl, rfl, by decide +kernel, rfl, by decide +kernel, by decide +kernel⟩
def T_Keys_kept : SpX := fun ds O Q E => match ds with
  | [.own k, .int t] => ∃ kd life st, ∃ kt : Nat, keysAt O k kd life st ∧ st.length ≤ 1000 ∧ StC st ∧ O[kt]? = some (Cell.tab "Keys.kept") ∧ ∀ es, es.Perm (keptL life t st) → es.Pairwise (fun a b => k0 a ≤ k0 b) → Q (.own (O.length + 1)) (O ++ [.lst (keptL life t st)] ++ [.lst es])
  | _ => False
theorem len_Keys_kept : ∀ ds O Q E, T_Keys_kept ds O Q E → ds.length = 2 := fun ds O Q E h => by
  match ds, h with
  | [.own k, .int t], _ => rfl
theorem ok_Keys_kept {P : Program} {w : World} {K : PySem.W.Frag} {mg : Str → Option Value} {base : Heap} {f : Addr} {fd : FuncData} (F : Fun K "kept" "Keys.kept" s_Keys_kept f fd) {cc : Addr} (hcode : fd.code = .ref cc) (TB : LamX.TabB base mg cc (tabA K "Keys.kept"))  (m_sorted : mg "sorted" = none)   (CF_Keys : CF K 23) :
    FnX P w K mg base 1 f fd ["self", "turn"] T_Keys_kept := by
  skip
  refine fnx_ofL F hcode sc_Keys_kept (len_Keys_kept) _ (fun A outer s H E hr => by
    have tk : Takes (cxOf (L2.CX P w) P w K mg base ["self", "turn", "found", "asker", "key", "word", "number", "when", "deed", "answer"] "Keys.kept" (defScope s_Keys_kept) f (.ref cc) A outer s H E) (W0 E) := takes_of rfl rfl rfl rfl
    have po : PassesOwn (model P w) (A.deeper (envOfC "Keys.kept" (defScope s_Keys_kept) s.heap.objs.size f (.ref cc))) (envOfC "Keys.kept" (defScope s_Keys_kept) s.heap.objs.size f (.ref cc)) (cxOf (L2.CX P w) P w K mg base ["self", "turn", "found", "asker", "key", "word", "number", "when", "deed", "answer"] "Keys.kept" (defScope s_Keys_kept) f (.ref cc) A outer s H E).xe := passes_of rfl
    exact (psx_cons (psx_set (i := 2) sc_Keys_kept.nd rfl (Or.inl rfl) (px_lstO pax_nil))
      (psx_cons (psx_lock (psx_forT2 (n1 := 2) (n2 := 5) po rfl (px_fld (j := 23) (i := 1) CF_Keys (xv 0)) (pgsx_cons (i := 3) sc_Keys_kept.nd rfl (Or.inl rfl) (pgsx_cons (i := 4) sc_Keys_kept.nd rfl (Or.inl rfl) pgsx_nil)) (pgsx_cons (i := 5) sc_Keys_kept.nd rfl (Or.inl rfl) (pgsx_cons (i := 6) sc_Keys_kept.nd rfl (Or.inl rfl) (pgsx_cons (i := 7) sc_Keys_kept.nd rfl (Or.inl rfl) (pgsx_cons (i := 8) sc_Keys_kept.nd rfl (Or.inl rfl) (pgsx_cons (i := 9) sc_Keys_kept.nd rfl (Or.inl rfl) pgsx_nil))))) (psx_cons (psx_if (PWX.pt (pwx_and (ptx_cmp (c_eq hr.u) (xv 5) px_str) (pwx_and1 (ptx_cmp c_gt (px_op o_addA (xv 7) (px_fld (j := 23) (i := 0) CF_Keys (xv 0))) (xv 1))))) (psx_cons (psx_expr (px_bm PySem.F.plainAttrs_list PySem.F.slot_list_append PySem.F.type_list_append m_append (xv 2) (pax_cons (px_tup (pax_cons (xv 6) (pax_cons (xv 7) (pax_cons (xv 3) (pax_cons (xv 4) (pax_cons (xv 8) (pax_cons (xv 9) pax_nil))))))) pax_nil)))
      psx_nil) psx_nil)
      psx_nil)))
      (psx_cons (psx_ret (px_sortLamO (qn := "Keys.kept") hr TB m_sorted (xv 2)))
      psx_nil)))) ?_
  intro ds O Q E h hcl
  match ds, h with
  | [.own k, .int t], h =>
    replace h : ∃ kd life st, ∃ kt : Nat, keysAt O k kd life st ∧ st.length ≤ 1000 ∧ StC st ∧ O[kt]? = some (Cell.tab "Keys.kept") ∧ ∀ es, es.Perm (keptL life t st) → es.Pairwise (fun a b => k0 a ≤ k0 b) → Q (.own (O.length + 1)) (O ++ [.lst (keptL life t st)] ++ [.lst es]) := h
    obtain ⟨kd, life, st, kt, hk, hl, hc, ht, q⟩ := h
    obtain ⟨k1, k2⟩ := id hk
    have g1 : (O ++ [Cell.lst []])[kd]? = some (.dT (stP st)) := get_app k2
    have g2 : (O ++ [Cell.lst []])[k]? = some (.ins 23 [.int life, .own kd]) := get_app k1
    have kdl : kd < O.length := (List.getElem?_eq_some_iff.mp k2).1
    have kne : kd ≠ k := fun e => by subst e; rw [k1] at k2; cases k2
    walk_at "px go"
    refine ⟨kd, optK.mk g1 ?_⟩
    intro oo vs
    have ol : (O.set kd (Cell.fzT oo vs (stP st))).length = O.length := List.length_set
    have eO : ∀ acc, (O ++ [Cell.lst acc]).set kd (Cell.fzT oo vs (stP st)) = O.set kd (Cell.fzT oo vs (stP st)) ++ [Cell.lst acc] := fun acc => List.set_append_left _ _ kdl
    have f1 : ∀ acc, (O.set kd (Cell.fzT oo vs (stP st)) ++ [Cell.lst acc])[kd]? = some (Cell.fzT oo vs (stP st)) := fun _ => get_app (List.getElem?_set_self kdl)
    have f2 : ∀ acc, (O.set kd (Cell.fzT oo vs (stP st)) ++ [Cell.lst acc])[k]? = some (.ins 23 [.int life, .own kd]) := fun _ => get_app (by rw [List.getElem?_set_ne kne]; exact k1)
    have f3 : ∀ acc, (O.set kd (Cell.fzT oo vs (stP st)) ++ [Cell.lst acc])[O.length]? = some (.lst acc) := fun _ => by rw [← ol]; exact get_new
    have f4 : ∀ acc, ((O.set kd (Cell.fzT oo vs (stP st)) ++ [Cell.lst acc]).set kd (.dT (stP st))) = O ++ [Cell.lst acc] := fun acc => by
      rw [List.set_append_left _ _ (by rw [ol]; exact kdl), List.set_set]
      rw [set_same k2]
    rw [eO]
    have e1 := f1 []
    have e2 := f2 []
    walk_at "px go"
    refine ⟨fun p hp y hy => ?_, ?_⟩
    · obtain ⟨e, he, rfl⟩ := List.mem_map.mp hp
      have z := hc.sok e he
      rcases List.mem_cons.mp hy with rfl | hy
      · exact z.1
      · rcases List.mem_cons.mp hy with rfl | hy
        · exact z.2
        · cases hy
    have ol1 := ol
    clear eO ol
    generalize (Cell.fzT oo vs (stP st)) = z at f1 f2 f3 f4 ol1 ⊢
    generalize O.set kd z = O1 at f1 f2 f3 f4 ol1 ⊢
    clear g1 g2 e1 e2
    refine forGo_inv (fun rest G' O' => ∃ pre post g3 g4 g5 g6 g7 g8 g9, rest = itemsD (stP post) ∧ O' = O1 ++ [Cell.lst (keptL life t pre)] ∧ st = pre ++ post ∧ G' = [some (.own k), some (.int t), some (.own O.length), g3, g4, g5, g6, g7, g8, g9]) ⟨[], st, _, _, _, _, _, _, _, rfl, rfl, rfl, rfl⟩ (by rintro rest G' O' ⟨pre, post, g3, g4, g5, g6, g7, g8, g9, -, rfl, -, -⟩; exact f1 _) ?_ ?_
    · rintro d rest G' O' ⟨pre, post, g3, g4, g5, g6, g7, g8, g9, er, rfl, es, rfl⟩ nx hnx
      cases post with
      | nil => cases er
      | cons e post =>
        cases er
        obtain ⟨⟨x, y⟩, n, dd, o⟩ := e
        have e1 := f1 (keptL life t pre)
        have e2 := f2 (keptL life t pre)
        have e3 := f3 (keptL life t pre)
        have es2 : st = (pre ++ [((x, y), n, dd, o)]) ++ post := by rw [es, List.append_assoc]; rfl
        have lk : (keptL life t pre).length < 1000000 := by
          have h1 : (keptL life t pre).length ≤ pre.length := List.length_filterMap_le _ _
          have h2 := congrArg List.length es
          rw [List.length_append] at h2
          omega
        cases o with
        | none =>
          have ek : keptL life t (pre ++ [((x, y), n, dd, none)]) = keptL life t pre := by
            unfold keptL
            rw [List.filterMap_append]
            exact List.append_nil _
          rw [show ((fun p : List Key × D => D.tup [D.tup (List.map keyDD p.fst), p.snd]) ((fun p : Pr × Ent => (kyP p.fst, entD p.snd)) ((x, y), n, dd, none))) = .tup [.tup [.str x, .str y], .tup [.str "busy", .int n, .non, dd, .non]] from rfl]
          walk_at "px go"
          exact hnx _ _ ⟨pre ++ [((x, y), n, dd, none)], post, _, _, _, _, _, _, _, rfl, by rw [ek], es2, rfl⟩
        | some p =>
          obtain ⟨t0, a⟩ := p
          rw [show ((fun p : List Key × D => D.tup [D.tup (List.map keyDD p.fst), p.snd]) ((fun p : Pr × Ent => (kyP p.fst, entD p.snd)) ((x, y), n, dd, some (t0, a)))) = .tup [.tup [.str x, .str y], .tup [.str "kept", .int n, .int t0, dd, a]] from rfl]
          walk_at "px go"
          show xite (decide (t < t0 + life)) _ _
          refine xite_dec (fun w1 => ?_) (fun w1 => ?_)
          · have ek : keptL life t (pre ++ [((x, y), n, dd, some (t0, a))]) = keptL life t pre ++ [.tup [.int n, .int t0, .str x, .str y, dd, a]] := by
              unfold keptL
              rw [List.filterMap_append, List.filterMap_cons_some (show keptE life t ((x, y), n, dd, some (t0, a)) = some (.tup [.int n, .int t0, .str x, .str y, dd, a]) from if_pos w1)]
              rfl
            walk_at "px go"
            exact hnx _ _ ⟨pre ++ [((x, y), n, dd, some (t0, a))], post, _, _, _, _, _, _, _, rfl, by rw [ek]; exact set_fin ol1, es2, rfl⟩
          · have ek : keptL life t (pre ++ [((x, y), n, dd, some (t0, a))]) = keptL life t pre := by
              unfold keptL
              rw [List.filterMap_append, List.filterMap_cons_none (show keptE life t ((x, y), n, dd, some (t0, a)) = none from if_neg w1)]
              exact List.append_nil _
            walk_at "px go"
            exact hnx _ _ ⟨pre ++ [((x, y), n, dd, some (t0, a))], post, _, _, _, _, _, _, _, rfl, by rw [ek], es2, rfl⟩
    · rintro G' O' ⟨pre, post, g3, g4, g5, g6, g7, g8, g9, er, rfl, es, rfl⟩
      cases post with
      | cons e post => cases er
      | nil =>
        rw [List.append_nil] at es
        subst es
        have e1 := f1 (keptL life t st)
        refine ⟨e1, ?_⟩
        rw [f4]
        have g3 : (O ++ [Cell.lst (keptL life t st)])[O.length]? = some (.lst (keptL life t st)) := get_new
        have g4 : (O ++ [Cell.lst (keptL life t st)])[kt]? = some (Cell.tab "Keys.kept") := get_app ht
        walk_at "px go"
        refine ⟨fun e he => ?_, fun es hp hs => ?_⟩
        · obtain ⟨e', _, t0, a, _, _, rfl⟩ := kept_one he
          exact ⟨_, _, rfl⟩
        · have olq : (O ++ [Cell.lst (keptL life t st)]).length = O.length + 1 := by simp
          rw [olq]
          exact .inl (q es hp hs)
/-! ### Keys.under -/
abbrev s_Keys_under : Stmt := inClass (topS 6) 9
theorem sc_Keys_under : FnScope ["self", "found", "asker", "key", "word", "number", "when", "deed", "answer"] ["self"] (defScope s_Keys_under) := ⟨rfl, rfl, rfl, by decide +kernel, rfl, by decide +kernel, by decide +kernel⟩
def T_Keys_under : SpX := fun ds O Q E => match ds with
  | [.own k] => ∃ kd life st, ∃ kt : Nat, keysAt O k kd life st ∧ st.length ≤ 1000 ∧ StC st ∧ O[kt]? = some (Cell.tab "Keys.under") ∧ ∀ es, es.Perm (undL st) → es.Pairwise (fun a b => k0 a ≤ k0 b) → Q (.own (O.length + 1)) (O ++ [.lst (undL st)] ++ [.lst es])
  | _ => False
theorem len_Keys_under : ∀ ds O Q E, T_Keys_under ds O Q E → ds.length = 1 := fun ds O Q E h => by
  match ds, h with
  | [.own k], _ => rfl
theorem ok_Keys_under {P : Program} {w : World} {K : PySem.W.Frag} {mg : Str → Option Value} {base : Heap} {f : Addr} {fd : FuncData} (F : Fun K "under" "Keys.under" s_Keys_under f fd) {cc : Addr} (hcode : fd.code = .ref cc) (TB : LamX.TabB base mg cc (tabA K "Keys.under"))  (m_sorted : mg "sorted" = none)   (CF_Keys : CF K 23) :
    FnX P w K mg base 1 f fd ["self"] T_Keys_under := by
  skip
  refine fnx_ofL F hcode sc_Keys_under (len_Keys_under) _ (fun A outer s H E hr => by
    have tk : Takes (cxOf (L2.CX P w) P w K mg base ["self", "found", "asker", "key", "word", "number", "when", "deed", "answer"] "Keys.under" (defScope s_Keys_under) f (.ref cc) A outer s H E) (W0 E) := takes_of rfl rfl rfl rfl
    have po : PassesOwn (model P w) (A.deeper (envOfC "Keys.under" (defScope s_Keys_under) s.heap.objs.size f (.ref cc))) (envOfC "Keys.under" (defScope s_Keys_under) s.heap.objs.size f (.ref cc)) (cxOf (L2.CX P w) P w K mg base ["self", "found", "asker", "key", "word", "number", "when", "deed", "answer"] "Keys.under" (defScope s_Keys_under) f (.ref cc) A outer s H E).xe := passes_of rfl
    exact (psx_cons (psx_set (i := 1) sc_Keys_under.nd rfl (Or.inl rfl) (px_lstO pax_nil))
      (psx_cons (psx_lock (psx_forT2 (n1 := 2) (n2 := 5) po rfl (px_fld (j := 23) (i := 1) CF_Keys (xv 0)) (pgsx_cons (i := 2) sc_Keys_under.nd rfl (Or.inl rfl) (pgsx_cons (i := 3) sc_Keys_under.nd rfl (Or.inl rfl) pgsx_nil)) (pgsx_cons (i := 4) sc_Keys_under.nd rfl (Or.inl rfl) (pgsx_cons (i := 5) sc_Keys_under.nd rfl (Or.inl rfl) (pgsx_cons (i := 6) sc_Keys_under.nd rfl (Or.inl rfl) (pgsx_cons (i := 7) sc_Keys_under.nd rfl (Or.inl rfl) (pgsx_cons (i := 8) sc_Keys_under.nd rfl (Or.inl rfl) pgsx_nil))))) (psx_cons (psx_if (ptx_cmp (c_eq hr.u) (xv 4) px_str) (psx_cons (psx_expr (px_bm PySem.F.plainAttrs_list PySem.F.slot_list_append PySem.F.type_list_append m_append (xv 1) (pax_cons (px_tup (pax_cons (xv 5) (pax_cons (xv 2) (pax_cons (xv 3) (pax_cons (xv 7) pax_nil))))) pax_nil)))
      psx_nil) psx_nil)
      psx_nil)))
      (psx_cons (psx_ret (px_sortLamO (qn := "Keys.under") hr TB m_sorted (xv 1)))
      psx_nil)))) ?_
  intro ds O Q E h hcl
  match ds, h with
  | [.own k], h =>
    replace h : ∃ kd life st, ∃ kt : Nat, keysAt O k kd life st ∧ st.length ≤ 1000 ∧ StC st ∧ O[kt]? = some (Cell.tab "Keys.under") ∧ ∀ es, es.Perm (undL st) → es.Pairwise (fun a b => k0 a ≤ k0 b) → Q (.own (O.length + 1)) (O ++ [.lst (undL st)] ++ [.lst es]) := h
    obtain ⟨kd, life, st, kt, hk, hl, hc, ht, q⟩ := h
    obtain ⟨k1, k2⟩ := id hk
    have g1 : (O ++ [Cell.lst []])[kd]? = some (.dT (stP st)) := get_app k2
    have g2 : (O ++ [Cell.lst []])[k]? = some (.ins 23 [.int life, .own kd]) := get_app k1
    have kdl : kd < O.length := (List.getElem?_eq_some_iff.mp k2).1
    have kne : kd ≠ k := fun e => by subst e; rw [k1] at k2; cases k2
    walk_at "px go"
    refine ⟨kd, optK.mk g1 ?_⟩
    intro oo vs
    have ol : (O.set kd (Cell.fzT oo vs (stP st))).length = O.length := List.length_set
    have eO : ∀ acc, (O ++ [Cell.lst acc]).set kd (Cell.fzT oo vs (stP st)) = O.set kd (Cell.fzT oo vs (stP st)) ++ [Cell.lst acc] := fun acc => List.set_append_left _ _ kdl
    have f1 : ∀ acc, (O.set kd (Cell.fzT oo vs (stP st)) ++ [Cell.lst acc])[kd]? = some (Cell.fzT oo vs (stP st)) := fun _ => get_app (List.getElem?_set_self kdl)
    have f2 : ∀ acc, (O.set kd (Cell.fzT oo vs (stP st)) ++ [Cell.lst acc])[k]? = some (.ins 23 [.int life, .own kd]) := fun _ => get_app (by rw [List.getElem?_set_ne kne]; exact k1)
    have f3 : ∀ acc, (O.set kd (Cell.fzT oo vs (stP st)) ++ [Cell.lst acc])[O.length]? = some (.lst acc) := fun _ => by rw [← ol]; exact get_new
    have f4 : ∀ acc, ((O.set kd (Cell.fzT oo vs (stP st)) ++ [Cell.lst acc]).set kd (.dT (stP st))) = O ++ [Cell.lst acc] := fun acc => by
      rw [List.set_append_left _ _ (by rw [ol]; exact kdl), List.set_set]
      rw [set_same k2]
    rw [eO]
    have e1 := f1 []
    have e2 := f2 []
    walk_at "px go"
    refine ⟨fun p hp y hy => ?_, ?_⟩
    · obtain ⟨e, he, rfl⟩ := List.mem_map.mp hp
      have z := hc.sok e he
      rcases List.mem_cons.mp hy with rfl | hy
      · exact z.1
      · rcases List.mem_cons.mp hy with rfl | hy
        · exact z.2
        · cases hy
    have ol1 := ol
    clear eO ol
    generalize (Cell.fzT oo vs (stP st)) = z at f1 f2 f3 f4 ol1 ⊢
    generalize O.set kd z = O1 at f1 f2 f3 f4 ol1 ⊢
    clear g1 g2 e1 e2
    refine forGo_inv (fun rest G' O' => ∃ pre post g3 g4 g5 g6 g7 g8 g9, rest = itemsD (stP post) ∧ O' = O1 ++ [Cell.lst (undL pre)] ∧ st = pre ++ post ∧ G' = [some (.own k), some (.own O.length), g3, g4, g5, g6, g7, g8, g9]) ⟨[], st, _, _, _, _, _, _, _, rfl, rfl, rfl, rfl⟩ (by rintro rest G' O' ⟨pre, post, g3, g4, g5, g6, g7, g8, g9, -, rfl, -, -⟩; exact f1 _) ?_ ?_
    · rintro d rest G' O' ⟨pre, post, g3, g4, g5, g6, g7, g8, g9, er, rfl, es, rfl⟩ nx hnx
      cases post with
      | nil => cases er
      | cons e post =>
        cases er
        obtain ⟨⟨x, y⟩, n, dd, o⟩ := e
        have e1 := f1 (undL pre)
        have e2 := f2 (undL pre)
        have e3 := f3 (undL pre)
        have es2 : st = (pre ++ [((x, y), n, dd, o)]) ++ post := by rw [es, List.append_assoc]; rfl
        have lk : (undL pre).length < 1000000 := by
          have h1 : (undL pre).length ≤ pre.length := List.length_filterMap_le _ _
          have h2 := congrArg List.length es
          rw [List.length_append] at h2
          omega
        cases o with
        | none =>
          have ek : undL (pre ++ [((x, y), n, dd, none)]) = undL pre ++ [.tup [.int n, .str x, .str y, dd]] := by
            unfold undL
            rw [List.filterMap_append]; rfl
          rw [show ((fun p : List Key × D => D.tup [D.tup (List.map keyDD p.fst), p.snd]) ((fun p : Pr × Ent => (kyP p.fst, entD p.snd)) ((x, y), n, dd, none))) = .tup [.tup [.str x, .str y], .tup [.str "busy", .int n, .non, dd, .non]] from rfl]
          walk_at "px go"
          exact hnx _ _ ⟨pre ++ [((x, y), n, dd, none)], post, _, _, _, _, _, _, _, rfl, by rw [ek]; exact set_fin ol1, es2, rfl⟩
        | some p =>
          obtain ⟨t0, a⟩ := p
          have ek : undL (pre ++ [((x, y), n, dd, some (t0, a))]) = undL pre := by
            unfold undL
            rw [List.filterMap_append]
            exact List.append_nil _
          rw [show ((fun p : List Key × D => D.tup [D.tup (List.map keyDD p.fst), p.snd]) ((fun p : Pr × Ent => (kyP p.fst, entD p.snd)) ((x, y), n, dd, some (t0, a)))) = .tup [.tup [.str x, .str y], .tup [.str "kept", .int n, .int t0, dd, a]] from rfl]
          walk_at "px go"
          exact hnx _ _ ⟨pre ++ [((x, y), n, dd, some (t0, a))], post, _, _, _, _, _, _, _, rfl, by rw [ek], es2, rfl⟩
    · rintro G' O' ⟨pre, post, g3, g4, g5, g6, g7, g8, g9, er, rfl, es, rfl⟩
      cases post with
      | cons e post => cases er
      | nil =>
        rw [List.append_nil] at es
        subst es
        have e1 := f1 (undL st)
        refine ⟨e1, ?_⟩
        rw [f4]
        have g3 : (O ++ [Cell.lst (undL st)])[O.length]? = some (.lst (undL st)) := get_new
        have g4 : (O ++ [Cell.lst (undL st)])[kt]? = some (Cell.tab "Keys.under") := get_app ht
        walk_at "px go"
        refine ⟨fun e he => ?_, fun es hp hs => ?_⟩
        · obtain ⟨e', _, _, rfl⟩ := und_one he
          exact ⟨_, _, rfl⟩
        · have olq : (O ++ [Cell.lst (undL st)]).length = O.length + 1 := by simp
          rw [olq]
          exact .inl (q es hp hs)
/-! ### _law_pen -/
abbrev s__law_pen : Stmt := topS 8
theorem sc__law_pen : FnScope ["_law_cell", "_law_k"] ["_law_cell", "_law_k"] (defScope s__law_pen) := ⟨rfl, rfl, rfl, by decide +kernel, rfl, by decide +kernel, by decide +kernel⟩
abbrev T__law_pen : SpX := T_pen
theorem len__law_pen : ∀ ds O Q E, T_penO ds O Q E → ds.length = 2 := fun ds O Q E h => by
  match ds, h with
  | [.int _, .int _], _ => rfl
theorem ok__law_pen {P : Program} {w : World} {K : PySem.W.Frag} {mg : Str → Option Value} {base : Heap} {f : Addr} {fd : FuncData} (F : Fun K "_law_pen" "_law_pen" s__law_pen f fd)  (m_max : mg "max" = none)   :
    FnX P w K mg base 1 f fd ["_law_cell", "_law_k"] T__law_pen := by
  refine fn_pen ?_
  refine fnx_of F sc__law_pen (len__law_pen) _ (fun cdv A outer s H E hr => by
    have tk : Takes (cxOf (L2.CX P w) P w K mg base ["_law_cell", "_law_k"] "_law_pen" (defScope s__law_pen) f cdv A outer s H E) (W0 E) := takes_of rfl rfl rfl rfl
    have po : PassesOwn (model P w) (A.deeper (envOfC "_law_pen" (defScope s__law_pen) s.heap.objs.size f cdv)) (envOfC "_law_pen" (defScope s__law_pen) s.heap.objs.size f cdv) (cxOf (L2.CX P w) P w K mg base ["_law_cell", "_law_k"] "_law_pen" (defScope s__law_pen) f cdv A outer s H E).xe := passes_of rfl
    exact (psx_cons (psx_ret (px_lstO (pax_cons (px_callB (f_max2 rfl) (by rfl) m_max (by decide +kernel) (pax_cons px_int (pax_cons (px_op o_sub (xv 0) (px_op o_pow px_int px_int)) pax_nil))) (pax_cons (px_op o_mod (px_op o_addA (px_op o_addA (px_op o_mul (px_op o_mod (xv 0) px_int) px_int) (px_op o_mul px_int (xv 1))) px_int) px_int) pax_nil))))
      psx_nil)) ?_
  intro ds O Q E h hcl
  match ds, h with
  | [.int c, .int k], h =>
    walk_at "px go"
    refine .inl (h _ _ ?_ (Int.emod_nonneg _ (by decide)) (Int.emod_lt_of_pos _ (by decide)))
    split <;> omega
/-! ### _law_take -/
abbrev s__law_take : Stmt := topS 9
theorem sc__law_take : FnScope ["_law_pen_here", "_law_most", "_law_found", "_law_turn", "_law_mixed"] ["_law_pen_here", "_law_most"] (defScope s__law_take) := ⟨rfl, rfl, rfl, by decide +kernel, rfl, by decide +kernel, by decide +kernel⟩
abbrev T__law_take : SpX := T_take
theorem len__law_take : ∀ ds O Q E, T_takeO ds O Q E → ds.length = 2 := fun ds O Q E h => by
  match ds, h with
  | [.own _, .int _], _ => rfl
theorem ok__law_take {P : Program} {w : World} {K : PySem.W.Frag} {mg : Str → Option Value} {base : Heap} {f : Addr} {fd : FuncData} (F : Fun K "_law_take" "_law_take" s__law_take f fd)  (m_range : mg "range" = none) (m_int : mg "int" = none)   :
    FnX P w K mg base 1 f fd ["_law_pen_here", "_law_most"] T__law_take := by
  refine fn_take ?_
  refine fnx_of F sc__law_take (len__law_take) _ (fun cdv A outer s H E hr => by
    have tk : Takes (cxOf (L2.CX P w) P w K mg base ["_law_pen_here", "_law_most", "_law_found", "_law_turn", "_law_mixed"] "_law_take" (defScope s__law_take) f cdv A outer s H E) (W0 E) := takes_of rfl rfl rfl rfl
    have po : PassesOwn (model P w) (A.deeper (envOfC "_law_take" (defScope s__law_take) s.heap.objs.size f cdv)) (envOfC "_law_take" (defScope s__law_take) s.heap.objs.size f cdv) (cxOf (L2.CX P w) P w K mg base ["_law_pen_here", "_law_most", "_law_found", "_law_turn", "_law_mixed"] "_law_take" (defScope s__law_take) f cdv A outer s H E).xe := passes_of rfl
    exact (psx_cons (psx_if (ptx_cmp c_gt (px_ixA hr.u (xv 0) px_int) px_int) (psx_cons (psx_set (i := 2) sc__law_take.nd rfl (Or.inl rfl) (px_op o_mod (px_ixA hr.u (xv 0) px_int) (xv 1)))
      (psx_cons (psx_asg (px_op o_fdivW (px_ixA hr.u (xv 0) px_int) (xv 1)) (pgx_subA hr.u (xv 0) px_int))
      (psx_cons (psx_ret (xv 2))
      psx_nil))) psx_nil)
      (psx_cons (psx_set (i := 2) sc__law_take.nd rfl (Or.inl rfl) px_int)
      (psx_cons (psx_for po rfl (pix_rng1 (by rfl) m_range (pax_cons (px_op o_addA px_int (px_callTy f_intA (by rfl) m_int (by decide +kernel) (pax_cons (px_cmp c_gt (xv 1) (px_op o_pow px_int px_int)) pax_nil))) pax_nil)) (pgx_name (i := 3) sc__law_take.nd rfl (Or.inl rfl)) (psx_cons (psx_asg (px_op o_mod (px_op o_addA (px_op o_addA (px_op o_mul (px_ixA hr.u (xv 0) px_int) (px_ixA hr.u (xv 0) px_int)) (px_op o_mul px_int (px_ixA hr.u (xv 0) px_int))) px_int) px_int) (pgx_subA hr.u (xv 0) px_int))
      (psx_cons (psx_set (i := 4) sc__law_take.nd rfl (Or.inl rfl) (px_op o_mod (px_op o_addA (px_op o_mul (px_ixA hr.u (xv 0) px_int) px_int) px_int) px_int))
      (psx_cons (psx_set (i := 2) sc__law_take.nd rfl (Or.inl rfl) (px_op o_addA (px_op o_mul (xv 2) px_int) (px_op o_mod (px_op o_mul (xv 4) (xv 4)) px_int)))
      psx_nil))))
      (psx_cons (psx_ret (px_op o_mod (px_op o_fdivW (xv 2) px_int) (xv 1)))
      psx_nil))))) ?_
  intro ds O Q E h hcl
  match ds, h with
  | [.own k, .int m], ⟨O0, p, q, h1, h2, p0, q0, q1, hm, hq⟩ =>
    subst h2
    have hk : k < O0.length := (List.getElem?_eq_some_iff.mp h1).1
    have g : ∀ c, (O0.set k c)[k]? = some c := fun c => List.getElem?_set_self hk
    have g1 := g (.lst [.int p, .int q])
    walk_at "px go"
    refine xite_dec (fun w1 => ?_) (fun w1 => ?_)
    · walk_at "px go"
      refine ⟨hm.1, ?_⟩
      walk_at "px go"
      rw [List.set_set]
      exact .inl (hq (p % m) (p / m) q (Int.emod_nonneg _ (by have := hm.1; omega)) (Int.emod_lt_of_pos _ hm.1) (Int.ediv_nonneg p0 (by have := hm.1; omega)) q0 q1)
    · walk_at "px go"
      refine forGo_inv (fun rest G' O' => ∃ q' f : Int, ∃ g3 g4, 0 ≤ q' ∧ q' < 2147483629 ∧ O' = O0.set k (.lst [.int p, .int q']) ∧ G' = [some (.own k), some (.int m), some (.int f), g3, g4]) ⟨q, 0, _, _, q0, q1, rfl, rfl⟩ (fun _ _ _ _ => trivial) ?_ ?_
      · rintro d rest G' O' ⟨q', f, g3, g4, z0, z1, rfl, rfl⟩ nx hnx
        have g2 := g (.lst [.int p, .int q'])
        walk_at "px go"
        rw [List.set_set]
        have g3' := g (.lst (List.set [D.int p, D.int q'] (Int.toNat 1) (.int ((q' * q' + 48271 * q' + 11) % 2147483629))))
        have y0 : 0 ≤ (q' * q' + 48271 * q' + 11) % 2147483629 := Int.emod_nonneg _ (by decide)
        have y1 : (q' * q' + 48271 * q' + 11) % 2147483629 < 2147483629 := Int.emod_lt_of_pos _ (by decide)
        walk_at "px go"
        exact hnx _ _ ⟨_, _, _, _, y0, y1, rfl, rfl⟩
      · rintro G' O' ⟨q', f, g3, g4, z0, z1, rfl, rfl⟩
        walk_at "px go"
        refine ⟨hm.1, ?_⟩
        walk_at "px go"
        exact .inl (hq _ p q' (Int.emod_nonneg _ (by have := hm.1; omega)) (Int.emod_lt_of_pos _ hm.1) p0 z0 z1)
/-! ### _law_cell_at -/
abbrev s__law_cell_at : Stmt := topS 10
theorem sc__law_cell_at : FnScope ["_law_script", "_law_k"] ["_law_script", "_law_k"] (defScope s__law_cell_at) := ⟨rfl, rfl, rfl, by decide +kernel, rfl, by decide +kernel, by decide +kernel⟩
def T__law_cell_at : SpX := fun ds O Q E => match ds with
  | [.lst es, .int k] => ∃ ns : List Int, es = ns.map .int ∧ 0 ≤ k ∧ ∀ c : Int, Q (.int c) O
  | _ => False
theorem len__law_cell_at : ∀ ds O Q E, T__law_cell_at ds O Q E → ds.length = 2 := fun ds O Q E h => by
  match ds, h with
  | [.lst es, .int k], _ => rfl
theorem ok__law_cell_at {P : Program} {w : World} {K : PySem.W.Frag} {mg : Str → Option Value} {base : Heap} {f : Addr} {fd : FuncData} (F : Fun K "_law_cell_at" "_law_cell_at" s__law_cell_at f fd)  (m_len : mg "len" = none)   :
    FnX P w K mg base 1 f fd ["_law_script", "_law_k"] T__law_cell_at := by
  skip
  refine fnx_of F sc__law_cell_at (len__law_cell_at) _ (fun cdv A outer s H E hr => by
    have tk : Takes (cxOf (L2.CX P w) P w K mg base ["_law_script", "_law_k"] "_law_cell_at" (defScope s__law_cell_at) f cdv A outer s H E) (W0 E) := takes_of rfl rfl rfl rfl
    have po : PassesOwn (model P w) (A.deeper (envOfC "_law_cell_at" (defScope s__law_cell_at) s.heap.objs.size f cdv)) (envOfC "_law_cell_at" (defScope s__law_cell_at) s.heap.objs.size f cdv) (cxOf (L2.CX P w) P w K mg base ["_law_script", "_law_k"] "_law_cell_at" (defScope s__law_cell_at) f cdv A outer s H E).xe := passes_of rfl
    exact (psx_cons (psx_if (ptx_cmp c_lt (xv 1) (px_callB f_lenA (by rfl) m_len (by decide +kernel) (pax_cons (xv 0) pax_nil))) (psx_cons (psx_ret (px_ixA hr.u (xv 0) (xv 1)))
      psx_nil) psx_nil)
      (psx_cons (psx_ret px_int)
      psx_nil))) ?_
  intro ds O Q E h hcl
  match ds, h with
  | [.lst es, .int k], h =>
    replace h : ∃ ns : List Int, es = ns.map .int ∧ 0 ≤ k ∧ ∀ c : Int, Q (.int c) O := h
    obtain ⟨ns, rfl, k0, q⟩ := h
    walk_at "px go"
    refine xite_dec (fun w1 => ?_) (fun w1 => ?_)
    · have w1' : k < ((ns.map D.int).length : Nat) := w1
      walk_at "px go"
      refine pickK (fun d => ∃ i : Int, d = .int i) k0 w1' (fun d hd => ?_) (fun d hd => ?_)
      · obtain ⟨i, _, rfl⟩ := List.mem_map.mp hd; exact ⟨i, rfl⟩
      · obtain ⟨i, rfl⟩ := hd
        exact .inl (q i)
    · walk_at "px go"
      exact .inl (q 0)
/-! ### _law_number -/
abbrev s__law_number : Stmt := topS 13
theorem sc__law_number : FnScope ["_law_pen_here", "_law_least", "_law_most", "_law_way"] ["_law_pen_here", "_law_least", "_law_most"] (defScope s__law_number) := ⟨rfl, rfl, rfl, by decide +kernel, rfl, by decide +kernel, by decide +kernel⟩
def T__law_number : SpX := fun ds O Q E => match ds with
  | [.own k, .int a, .int b] => O[k]? = some .pen ∧ a ≤ b ∧ 0 ≤ a ∧ b ≤ 1000000000000000 ∧ ∀ i : Int, a ≤ i → i ≤ b → Q (.int i) O
  | _ => False
theorem len__law_number : ∀ ds O Q E, T__law_number ds O Q E → ds.length = 3 := fun ds O Q E h => by
  match ds, h with
  | [.own k, .int a, .int b], _ => rfl
theorem ok__law_number {P : Program} {w : World} {K : PySem.W.Frag} {mg : Str → Option Value} {base : Heap} {f : Addr} {fd : FuncData} (F : Fun K "_law_number" "_law_number" s__law_number f fd) (C__law_take : Cl P w K mg base "_law_take" 1 ["_law_pen_here", "_law_most"] T__law_take) (m_max : mg "max" = none) (m_min : mg "min" = none)   :
    FnX P w K mg base 2 f fd ["_law_pen_here", "_law_least", "_law_most"] T__law_number := by
  skip
  refine fnx_of F sc__law_number (len__law_number) _ (fun cdv A outer s H E hr => by
    have tk : Takes (cxOf (L2.CX P w) P w K mg base ["_law_pen_here", "_law_least", "_law_most", "_law_way"] "_law_number" (defScope s__law_number) f cdv A outer s H E) (W0 E) := takes_of rfl rfl rfl rfl
    have po : PassesOwn (model P w) (A.deeper (envOfC "_law_number" (defScope s__law_number) s.heap.objs.size f cdv)) (envOfC "_law_number" (defScope s__law_number) s.heap.objs.size f cdv) (cxOf (L2.CX P w) P w K mg base ["_law_pen_here", "_law_least", "_law_most", "_law_way"] "_law_number" (defScope s__law_number) f cdv A outer s H E).xe := passes_of rfl
    exact (psx_cons (psx_set (i := 3) sc__law_number.nd rfl (Or.inl rfl) (px_cl C__law_take hr tk (pax_cons (xv 0) (pax_cons px_int pax_nil))))
      (psx_cons (psx_if (ptx_cmp c_lt (xv 3) px_int) (psx_cons (psx_ret (px_ixA hr.u (px_lst (pax_cons (xv 1) (pax_cons (xv 2) pax_nil))) (xv 3)))
      psx_nil) psx_nil)
      (psx_cons (psx_if (ptx_cmp (c_eq hr.u) (xv 3) px_int) (psx_cons (psx_ret (px_callB (f_min2 rfl) (by rfl) m_min (by decide +kernel) (pax_cons (xv 2) (pax_cons (px_op o_addA (xv 1) (px_cl C__law_take hr tk (pax_cons (xv 0) (pax_cons px_int pax_nil)))) pax_nil))))
      psx_nil) psx_nil)
      (psx_cons (psx_if (ptx_cmp (c_eq hr.u) (xv 3) px_int) (psx_cons (psx_ret (px_callB (f_max2 rfl) (by rfl) m_max (by decide +kernel) (pax_cons (xv 1) (pax_cons (px_op o_sub (xv 2) (px_cl C__law_take hr tk (pax_cons (xv 0) (pax_cons px_int pax_nil)))) pax_nil))))
      psx_nil) psx_nil)
      (psx_cons (psx_ret (px_op o_addA (xv 1) (px_cl C__law_take hr tk (pax_cons (xv 0) (pax_cons (px_op o_addA (px_op o_sub (xv 2) (xv 1)) px_int) pax_nil)))))
      psx_nil)))))) ?_
  intro ds O Q E h hcl
  match ds, h with
  | [.own k, .int a, .int b], h =>
    replace h : O[k]? = some .pen ∧ a ≤ b ∧ 0 ≤ a ∧ b ≤ 1000000000000000 ∧ ∀ i : Int, a ≤ i → i ≤ b → Q (.int i) O := h
    obtain ⟨h1, hab, a0, b0, q⟩ := h
    walk_at "px go"
    intro r0 x0 y0
    walk_at "px go"
    refine xite_dec (fun w1 => ?_) (fun w1 => ?_)
    · have w1' : r0 < 2 := w1
      walk_at "px go"
      refine pickK (fun d => ∃ i : Int, d = .int i ∧ a ≤ i ∧ i ≤ b) x0 (by show r0 < 2; exact w1') (fun d hd => ?_) (fun d hd => ?_)
      · simp only [List.mem_cons, List.not_mem_nil, or_false] at hd
        rcases hd with rfl | rfl <;> exact ⟨_, rfl, by omega, by omega⟩
      · obtain ⟨i, rfl, i0, i1⟩ := hd
        exact .inl (q i i0 i1)
    · walk_at "px go"
      refine xite_int (fun w2 => ?_) (fun w2 => ?_)
      · walk_at "px go"
        intro r1 x1 y1
        walk_at "px go"
        refine .inl (q _ ?_ ?_)
        · split <;> (try dsimp only at *) <;> omega
        · split <;> (try dsimp only at *) <;> omega
      · walk_at "px go"
        refine xite_int (fun w3 => ?_) (fun w3 => ?_)
        · walk_at "px go"
          intro r1 x1 y1
          walk_at "px go"
          refine .inl (q _ ?_ ?_)
          · split <;> (try dsimp only at *) <;> omega
          · split <;> (try dsimp only at *) <;> omega
        · walk_at "px go"
          intro r1 x1 y1
          have y1' : r1 < b - a + 1 := y1
          walk_at "px go"
          exact .inl (q _ (by omega) (by omega))
def IsKy (x : Str) : Prop := madeOf (.str x) "abcdefghijklmnopqrstuvwxyz0123456789" 12 = true
theorem sig_all : ("abcdefghijklmnopqrstuvwxyz0123456789" : Str).cps.toList = [97, 98, 99, 100, 101, 102, 103, 104, 105, 106, 107, 108, 109, 110, 111, 112, 113, 114, 115, 116, 117, 118, 119, 120, 121, 122, 48, 49, 50, 51, 52, 53, 54, 55, 56, 57] := by decide +kernel
def sg (i : Nat) : Nat := if i < 26 then 97 + i else 22 + i
theorem sg_at {i : Nat} (h : i < 36) : ("abcdefghijklmnopqrstuvwxyz0123456789" : Str).cps.toList[i]? = some (sg i) := by
  rw [sig_all]
  have : i = 0 ∨ i = 1 ∨ i = 2 ∨ i = 3 ∨ i = 4 ∨ i = 5 ∨ i = 6 ∨ i = 7 ∨ i = 8 ∨ i = 9 ∨ i = 10 ∨ i = 11 ∨ i = 12 ∨ i = 13 ∨ i = 14 ∨ i = 15 ∨ i = 16 ∨ i = 17 ∨ i = 18 ∨ i = 19 ∨ i = 20 ∨ i = 21 ∨ i = 22 ∨ i = 23 ∨ i = 24 ∨ i = 25 ∨ i = 26 ∨ i = 27 ∨ i = 28 ∨ i = 29 ∨ i = 30 ∨ i = 31 ∨ i = 32 ∨ i = 33 ∨ i = 34 ∨ i = 35 := by omega
  rcases this with rfl | rfl | rfl | rfl | rfl | rfl | rfl | rfl | rfl | rfl | rfl | rfl | rfl | rfl | rfl | rfl | rfl | rfl | rfl | rfl | rfl | rfl | rfl | rfl | rfl | rfl | rfl | rfl | rfl | rfl | rfl | rfl | rfl | rfl | rfl | rfl <;> rfl
theorem lt_at {i : Nat} (h : i < 26) : ("abcdefghijklmnopqrstuvwxyz" : Str).cps.toList[i]? = some (97 + i) := by
  rw [small_all]
  have : i = 0 ∨ i = 1 ∨ i = 2 ∨ i = 3 ∨ i = 4 ∨ i = 5 ∨ i = 6 ∨ i = 7 ∨ i = 8 ∨ i = 9 ∨ i = 10 ∨ i = 11 ∨ i = 12 ∨ i = 13 ∨ i = 14 ∨ i = 15 ∨ i = 16 ∨ i = 17 ∨ i = 18 ∨ i = 19 ∨ i = 20 ∨ i = 21 ∨ i = 22 ∨ i = 23 ∨ i = 24 ∨ i = 25 := by omega
  rcases this with rfl | rfl | rfl | rfl | rfl | rfl | rfl | rfl | rfl | rfl | rfl | rfl | rfl | rfl | rfl | rfl | rfl | rfl | rfl | rfl | rfl | rfl | rfl | rfl | rfl | rfl <;> rfl
theorem sg_mem {c : Nat} : c ∈ ("abcdefghijklmnopqrstuvwxyz0123456789" : Str).cps.toList ↔ (97 ≤ c ∧ c ≤ 122) ∨ (48 ≤ c ∧ c ≤ 57) := by
  rw [sig_all]
  simp only [List.mem_cons, List.not_mem_nil, or_false]
  omega
theorem isKy_iff {x : Str} : IsKy x ↔ 1 ≤ x.length ∧ x.length ≤ 12 ∧ ∀ c ∈ x.cps.toList, (97 ≤ c ∧ c ≤ 122) ∨ (48 ≤ c ∧ c ≤ 57) := by
  unfold IsKy
  rw [madeOf_str, Bool.and_eq_true, Bool.and_eq_true, decide_eq_true_iff, decide_eq_true_iff, List.all_eq_true]
  constructor
  · rintro ⟨⟨h1, h2⟩, h3⟩
    exact ⟨by omega, by omega, fun c hc => sg_mem.mp (of_decide_eq_true (h3 c hc))⟩
  · rintro ⟨h1, h2, h3⟩
    exact ⟨⟨by omega, by omega⟩, fun c hc => decide_eq_true (sg_mem.mpr (h3 c hc))⟩
/-- the word of some signs -/
def wd (f : Nat → Nat) (l : List Nat) : Str := ⟨(l.map f).toArray⟩
theorem wd_nm {l : List Nat} (h0 : 1 ≤ l.length) (h1 : l.length ≤ 8) (h : ∀ i ∈ l, i < 26) : IsNm (wd (97 + ·) l) := isNm_iff.mpr ⟨by show 1 ≤ ((l.map (97 + ·)).toArray).size; simpa using h0, by show ((l.map (97 + ·)).toArray).size ≤ 8; simpa using h1, fun c hc => by
  have hc' : c ∈ l.map (97 + ·) := by simpa [wd] using hc
  obtain ⟨i, hi, rfl⟩ := List.mem_map.mp hc'
  have := h i hi
  omega⟩
theorem wd_ky {l : List Nat} (h0 : 1 ≤ l.length) (h1 : l.length ≤ 12) (h : ∀ i ∈ l, i < 36) : IsKy (wd sg l) := isKy_iff.mpr ⟨by show 1 ≤ ((l.map sg).toArray).size; simpa using h0, by show ((l.map sg).toArray).size ≤ 12; simpa using h1, fun c hc => by
  have hc' : c ∈ l.map sg := by simpa [wd] using hc
  obtain ⟨i, hi, rfl⟩ := List.mem_map.mp hc'
  have := h i hi
  unfold sg
  split <;> omega⟩
theorem ixN_nat {n t : Nat} (h : t < n) : ixN n (t : Int) = some t := by
  unfold ixN
  simp [h]
theorem set_mapI {l : List Nat} {t : Nat} {v : Int} (h : 0 ≤ v) : (l.map fun i => D.int (i : Nat)).set t (.int v) = (l.set t v.toNat).map fun i => D.int (i : Nat) := by
  rw [List.map_set, Int.toNat_of_nonneg h]
theorem set_mid {O Z : Om} {c c' : Cell} : (O ++ [c] ++ Z).set O.length c' = O ++ [c'] ++ Z := by
  rw [List.append_assoc, List.append_assoc, List.set_append_right _ _ (Nat.le_refl _), Nat.sub_self]; rfl
def rng (j n : Nat) : List D := (List.range' j n).map fun i => .int (i : Nat)
theorem rng_0 (n : Nat) : (List.range n).map (fun i => D.int (i : Nat)) = rng 0 n := by unfold rng; rw [List.range_eq_range']
theorem rng_cons {j n : Nat} {d : D} {r : List D} (h : d :: r = rng j n) : ∃ m, n = m + 1 ∧ d = .int (j : Nat) ∧ r = rng (j + 1) m := by
  cases n with
  | zero => cases h
  | succ m => exact ⟨m, rfl, (List.cons.inj h).1, (List.cons.inj h).2⟩
theorem rng_nil {j n : Nat} (h : [] = rng j n) : n = 0 := by
  cases n with
  | zero => rfl
  | succ m => cases h
theorem nodup_at {l : List Str} (f : Str → Option Nat) (g : Nat → Option Nat) (h : ∀ (i : Nat) x, l[i]? = some x → f x = g i) (inj : ∀ i j : Nat, i < j → j < l.length → g i ≠ g j) : l.Nodup := by
  refine List.pairwise_iff_getElem.mpr fun i j hi hj hij e => inj i j hij hj ?_
  rw [← h i _ (List.getElem?_eq_getElem hi), ← h j _ (List.getElem?_eq_getElem hj), e]

/-! ### _law_names -/
abbrev s__law_names : Stmt := topS 11
theorem sc__law_names : FnScope ["_law_pen_here", "_law_many", "_law_letters", "_law_size", "_law_at", "_law_step", "_law_base", "_law_names_here", "_law_k", "_law_long", "_law_signs", "_law_j", "_law_sign"] ["_law_pen_here", "_law_many"] (defScope s__law_names) := ⟨rfl, rfl, rfl, by decide +kernel, rfl, by decide +kernel, by decide +kernel⟩
def T__law_names : SpX := fun ds O Q E => match ds with
  | [.own k, .int m] => O[k]? = some .pen ∧ 0 ≤ m ∧ m ≤ 6 ∧ ∀ l : List Str, l.length = m.toNat → (∀ x ∈ l, IsNm x) → l.Nodup → Q (.lst (l.map .str)) O
  | _ => False
theorem len__law_names : ∀ ds O Q E, T__law_names ds O Q E → ds.length = 2 := fun ds O Q E h => by
  match ds, h with
  | [.own k, .int m], _ => rfl
theorem ok__law_names {P : Program} {w : World} {K : PySem.W.Frag} {mg : Str → Option Value} {base : Heap} {f : Addr} {fd : FuncData} (F : Fun K "_law_names" "_law_names" s__law_names f fd) (C__law_take : Cl P w K mg base "_law_take" 1 ["_law_pen_here", "_law_most"] T__law_take) (m_range : mg "range" = none)   :
    FnX P w K mg base 2 f fd ["_law_pen_here", "_law_many"] T__law_names := by
  skip
  refine fnx_of F sc__law_names (len__law_names) _ (fun cdv A outer s H E hr => by
    have tk : Takes (cxOf (L2.CX P w) P w K mg base ["_law_pen_here", "_law_many", "_law_letters", "_law_size", "_law_at", "_law_step", "_law_base", "_law_names_here", "_law_k", "_law_long", "_law_signs", "_law_j", "_law_sign"] "_law_names" (defScope s__law_names) f cdv A outer s H E) (W0 E) := takes_of rfl rfl rfl rfl
    have po : PassesOwn (model P w) (A.deeper (envOfC "_law_names" (defScope s__law_names) s.heap.objs.size f cdv)) (envOfC "_law_names" (defScope s__law_names) s.heap.objs.size f cdv) (cxOf (L2.CX P w) P w K mg base ["_law_pen_here", "_law_many", "_law_letters", "_law_size", "_law_at", "_law_step", "_law_base", "_law_names_here", "_law_k", "_law_long", "_law_signs", "_law_j", "_law_sign"] "_law_names" (defScope s__law_names) f cdv A outer s H E).xe := passes_of rfl
    exact (psx_cons (psx_set (i := 2) sc__law_names.nd rfl (Or.inr rfl) px_str)
      (psx_cons (psx_if (ptx_cmp (c_eq hr.u) (px_cl C__law_take hr tk (pax_cons (xv 0) (pax_cons px_int pax_nil))) px_int) (psx_cons (psx_ret (px_slA (px_lst (pax_cons px_str (pax_cons px_str (pax_cons px_str (pax_cons px_str (pax_cons px_str (pax_cons px_str pax_nil))))))) pox_none (pox_some (xv 1))))
      psx_nil) psx_nil)
      (psx_cons (psx_set (i := 3) sc__law_names.nd rfl (Or.inl rfl) (px_op o_addA px_int (px_cl C__law_take hr tk (pax_cons (xv 0) (pax_cons px_int pax_nil)))))
      (psx_cons (psx_set (i := 4) sc__law_names.nd rfl (Or.inl rfl) (px_cl C__law_take hr tk (pax_cons (xv 0) (pax_cons (xv 3) pax_nil))))
      (psx_cons (psx_set (i := 5) sc__law_names.nd rfl (Or.inl rfl) (px_ixA hr.u (px_lst (pax_cons px_int (pax_cons px_int (pax_cons px_int (pax_cons px_int (pax_cons px_int (pax_cons px_int pax_nil))))))) (px_cl C__law_take hr tk (pax_cons (xv 0) (pax_cons px_int pax_nil)))))
      (psx_cons (psx_setLc (k := 6) (own := [("_law_j", 11)]) (N := ["_law_pen_here", "_law_many", "_law_letters", "_law_size", "_law_at", "_law_step", "_law_base", "_law_names_here", "_law_k", "_law_long", "_law_signs", "_law_j", "_law_sign"]) (sc := defScope s__law_names) rfl sc__law_names.nd rfl rfl (sw_true rfl rfl rfl (by decide +kernel)) (pix_rng1 (by rfl) m_range (pax_cons (xv 3) pax_nil)) (by decide +kernel) (fun _ _ _ _ _ => (pgx_name (i := 11) sc__law_names.nd rfl (Or.inl rfl))) (fun _ _ _ _ _ => ptsx_nil) (fun _ _ _ _ _ => (px_cl C__law_take hr takes0 (pax_cons (xv 0) (pax_cons px_int pax_nil)))))
      (psx_cons (psx_set (i := 7) sc__law_names.nd rfl (Or.inl rfl) (px_lstO pax_nil))
      (psx_cons (psx_for po rfl (pix_rng1 (by rfl) m_range (pax_cons (xv 1) pax_nil)) (pgx_name (i := 8) sc__law_names.nd rfl (Or.inl rfl)) (psx_cons (psx_set (i := 9) sc__law_names.nd rfl (Or.inl rfl) (px_op o_addA (px_op o_addA (xv 4) px_int) (px_cl C__law_take hr tk (pax_cons (xv 0) (pax_cons (px_op o_sub (xv 3) (xv 4)) pax_nil)))))
      (psx_cons (psx_set (i := 10) sc__law_names.nd rfl (Or.inl rfl) (px_slO (xv 6) pox_none (pox_some (xv 9))))
      (psx_cons (psx_asg (px_op o_mod (px_op o_addA (px_ixA hr.u (xv 6) (xv 4)) (px_op o_mul (xv 5) (xv 8))) px_int) (pgx_subA hr.u (xv 10) (xv 4)))
      (psx_cons (psx_expr (px_bm PySem.F.plainAttrs_list PySem.F.slot_list_append PySem.F.type_list_append m_append (xv 7) (pax_cons (px_bm PySem.F.plainAttrs_str PySem.F.slot_str_join PySem.F.type_str_join m_join px_str (pax_cons (px_lc (own := [("_law_sign", 12)]) (N := ["_law_pen_here", "_law_many", "_law_letters", "_law_size", "_law_at", "_law_step", "_law_base", "_law_names_here", "_law_k", "_law_long", "_law_signs", "_law_j", "_law_sign"]) (sc := defScope s__law_names) rfl sc__law_names.nd (pix_walk (xv 10)) (by decide +kernel) (fun _ _ _ _ _ => (pgx_name (i := 12) sc__law_names.nd rfl (Or.inl rfl))) (fun _ _ _ _ _ => ptsx_nil) (fun _ _ _ _ _ => (px_ixA hr.u (xv 2) (xv 12)))) pax_nil)) pax_nil)))
      psx_nil)))))
      (psx_cons (psx_ret (px_frz 7))
      psx_nil)))))))))) ?_
  intro ds O Q E h hcl
  match ds, h with
  | [.own k, .int m], h =>
    replace h : O[k]? = some .pen ∧ 0 ≤ m ∧ m ≤ 6 ∧ ∀ l : List Str, l.length = m.toNat → (∀ x ∈ l, IsNm x) → l.Nodup → Q (.lst (l.map .str)) O := h
    obtain ⟨h1, m0, m1, q⟩ := h
    walk_at "px go"
    intro r0 x0 y0
    walk_at "px go"
    refine xite_int (fun w1 => ?_) (fun w1 => ?_)
    · walk_at "px go"
      rw [cutD_hi m0]
      refine .inl ?_
      rw [show [D.str "add", .str "take", .str "move", .str "send", .str "is", .str "no"] = (["add", "take", "move", "send", "is", "no"] : List Str).map .str from rfl, ← List.map_take]
      refine q _ ?_ (fun x hx => ?_) ?_
      · rw [List.length_take]; show min m.toNat 6 = _; omega
      · have hx := List.mem_of_mem_take hx
        simp only [List.mem_cons, List.not_mem_nil, or_false] at hx
        rcases hx with rfl | rfl | rfl | rfl | rfl | rfl <;> (show _ = true) <;> decide +kernel
      · exact List.Nodup.sublist (List.take_sublist _ _) (by decide +kernel)
    · walk_at "px go"
      intro r1 x1 y1
      walk_at "px go"
      intro t x2 y2
      walk_at "px go"
      intro r3 x3 y3
      walk_at "px go"
      refine pickK (fun d => ∃ i : Int, d = .int i ∧ (i = 1 ∨ i = 3 ∨ i = 5 ∨ i = 7 ∨ i = 9 ∨ i = 11)) x3 (by show r3 < 6; omega) (fun d hd => ?_) (fun d hd => ?_)
      · simp only [List.mem_cons, List.not_mem_nil, or_false] at hd
        rcases hd with rfl | rfl | rfl | rfl | rfl | rfl <;> exact ⟨_, rfl, by omega⟩
      obtain ⟨s, rfl, hs⟩ := hd
      obtain ⟨n, rfl⟩ : ∃ n : Nat, r1 = n := ⟨r1.toNat, by omega⟩
      obtain ⟨t, rfl⟩ : ∃ n : Nat, t = n := ⟨t.toNat, by omega⟩
      obtain ⟨m, rfl⟩ : ∃ n : Nat, m = n := ⟨m.toNat, by omega⟩
      walk_at "px go"
      refine lcGo_inv (fun rest acc O' => O' = O ∧ ∃ l : List Nat, acc = l.map (fun i => D.int (i : Nat)) ∧ (∀ i ∈ l, i < 26) ∧ l.length + rest.length = n + 1) ⟨rfl, [], rfl, (fun _ h => nomatch h), by simp; omega⟩ (fun _ _ _ _ => trivial) ?_ ?_
      · rintro d rest acc O' ⟨rfl, l, rfl, hl, hn⟩ kk kk' hk hk'
        walk_at "px go"
        intro r4 x4 y4
        walk_at "px go"
        obtain ⟨c, rfl⟩ : ∃ n : Nat, r4 = n := ⟨r4.toNat, by omega⟩
        exact hk _ _ ⟨rfl, l ++ [c], by rw [List.map_append]; rfl, fun i hi => by
          rcases List.mem_append.mp hi with hi | hi
          · exact hl i hi
          · rw [List.mem_singleton.mp hi]; omega, by rw [List.length_append, List.length_singleton]; rw [List.length_cons] at hn; omega⟩
      · rintro acc O' ⟨rfl, l, rfl, hl, hn⟩
        walk_at "px go"
        have hn' : l.length = n + 1 := by simpa using hn
        have htl : t < l.length := by omega
        obtain ⟨b, hb⟩ : ∃ b, l[t]? = some b := ⟨_, List.getElem?_eq_getElem htl⟩
        have hb26 : b < 26 := hl b (List.mem_of_getElem? hb)
        have eb : atI (l.map fun i => D.int (i : Nat)) (t : Int) = some (.int (b : Nat)) := atI_natP (by rw [List.getElem?_map, hb]; rfl)
        rw [show (List.range (Int.toNat (m : Int))).map (fun i => D.int (i : Nat)) = rng 0 m from rng_0 m]
        refine forGo_inv (fun rest G' O2 => ∃ (ws : List Str) (Z : Om) (j : Nat), ∃ g8 g9 g10 g11 g12, O2 = O' ++ [.lst (ws.map .str)] ++ Z ∧ rest = rng ws.length j ∧ ws.length + j = m ∧ (∀ x ∈ ws, IsNm x) ∧ (∀ (i : Nat) x, ws[i]? = some x → x.cps.toList[t]? = some (97 + (((b : Int) + s * i) % 26).toNat)) ∧ G' = [some (.own k), some (.int m), some (.str "abcdefghijklmnopqrstuvwxyz"), some (.int (1 + n)), some (.int t), some (.int s), some (.lst (l.map fun i => D.int (i : Nat))), some (.own O'.length), g8, g9, g10, g11, g12]) ⟨[], [], m, _, _, _, _, _, by simp, rfl, by simp, (fun _ h => nomatch h), (fun _ _ h => by simp at h), rfl⟩ (fun _ _ _ _ => trivial) ?_ ?_
        · rintro d rest G' O2 ⟨ws, Z, j, g8, g9, g10, g11, g12, rfl, er, ej, hw, hat, rfl⟩ nx hnx
          obtain ⟨j, rfl, rfl, rfl⟩ := rng_cons er
          have gk : (O' ++ [Cell.lst (ws.map D.str)] ++ Z)[k]? = some .pen := get_app (get_app h1)
          have gn : (O' ++ [Cell.lst (ws.map D.str)] ++ Z)[O'.length]? = some (.lst (ws.map .str)) := get_app get_new
          generalize hO2 : O' ++ [Cell.lst (ws.map D.str)] ++ Z = O2 at gk gn
          walk_at "px go"
          intro r5 x5 y5
          have y5' : r5 < 1 + n - t := y5
          walk_at "px go"
          obtain ⟨e, rfl⟩ : ∃ e : Nat, r5 = e := ⟨r5.toNat, by omega⟩
          rw [cutD_hi (by omega), ← List.map_take]
          have elt : (l.take ((t : Int) + 1 + e).toNat).length = t + 1 + e := by rw [List.length_take]; omega
          generalize hlt : l.take ((t : Int) + 1 + e).toNat = lt at elt
          have hlt26 : ∀ i ∈ lt, i < 26 := fun i hi => hl i (List.mem_of_mem_take (by rw [hlt]; exact hi))
          walk_at "px go"
          rw [ixN_nat (by rw [List.length_map]; omega)]
          walk_at "px go"
          rw [set_mapI (Int.emod_nonneg _ (by decide))]
          have hv : (((b : Int) + s * (ws.length : Nat)) % 26).toNat < 26 := by have := Int.emod_nonneg ((b : Int) + s * (ws.length : Nat)) (b := 26) (by decide); have := Int.emod_lt_of_pos ((b : Int) + s * (ws.length : Nat)) (b := 26) (by decide); omega
          change (((b : Int) + (fun i j : Int => i * j) s (ws.length : Nat)) % 26).toNat < 26 at hv
          have hw2 : ∀ i ∈ lt.set t (((b : Int) + (fun i j : Int => i * j) s (ws.length : Nat)) % 26).toNat, i < 26 := fun i hi => by
            rcases List.mem_or_eq_of_mem_set hi with hi | hi
            · exact hlt26 i hi
            · rw [hi]; exact hv
          have hget : (lt.set t (((b : Int) + (fun i j : Int => i * j) s (ws.length : Nat)) % 26).toNat)[t]? = some (((b : Int) + (fun i j : Int => i * j) s (ws.length : Nat)) % 26).toNat := List.getElem?_set_self (by omega)
          have hlen : (lt.set t (((b : Int) + (fun i j : Int => i * j) s (ws.length : Nat)) % 26).toNat).length = t + 1 + e := by rw [List.length_set]; exact elt
          generalize lt.set t (((b : Int) + (fun i j : Int => i * j) s (ws.length : Nat)) % 26).toNat = L at hw2 hget hlen
          walk_at "px go"
          refine lcGo_mapL (Q := _) (fun i : Nat => D.int (i : Nat)) (fun i => .str ⟨#[97 + i]⟩) (by exact get_new) (fun i hi kk kk' hk => ?_) ?_
          · have e2 : atI ("abcdefghijklmnopqrstuvwxyz" : Str).cps.toList (i : Int) = some (97 + i) := atI_natP (lt_at (hw2 i hi))
            walk_at "px go"
            exact hk
          rw [show L.map (fun i => D.str ⟨#[97 + i]⟩) = (L.map (97 + ·)).map (fun c => D.str ⟨#[c]⟩) from by rw [List.map_map]; rfl]
          walk_at "px go"
          rw [strs_map (fun c : Nat => (⟨#[c]⟩ : Str))]
          walk_at "px go"
          refine ⟨by rw [strs_sum1]; show (L.map (97 + ·)).length + _ * 0 ≤ _; rw [List.length_map]; omega, ?_⟩
          walk_at "px go"
          rw [← hO2, join_signs', List.append_assoc (O' ++ [Cell.lst (ws.map D.str)]), set_mid]
          refine hnx _ _ ⟨ws ++ [wd (97 + ·) L], Z ++ [Cell.lst (L.map fun i => D.int (i : Nat))], j, _, _, _, _, _, by rw [List.map_append]; rfl, by rw [List.length_append]; rfl, by rw [List.length_append, List.length_singleton]; omega, fun x hx => ?_, fun i x hx => ?_, rfl⟩
          · rcases List.mem_append.mp hx with hx | hx
            · exact hw x hx
            · rw [List.mem_singleton.mp hx]; exact wd_nm (by omega) (by omega) hw2
          · by_cases hi : i < ws.length
            · rw [List.getElem?_append_left hi] at hx; exact hat i x hx
            · rw [List.getElem?_append_right (by omega)] at hx
              have hi2 : i - ws.length = 0 := by
                have := (List.getElem?_eq_some_iff.mp hx).1
                simpa using this
              obtain rfl : i = ws.length := by omega
              rw [Nat.sub_self] at hx
              obtain rfl : wd (97 + ·) L = x := by simpa using hx
              show ((L.map (97 + ·)).toArray).toList[t]? = _
              rw [List.toList_toArray, List.getElem?_map, hget]
              rfl
        · rintro G' O2 ⟨ws, Z, j, g8, g9, g10, g11, g12, rfl, er, ej, hw, hat, rfl⟩
          obtain rfl := rng_nil er
          have gn : (O' ++ [Cell.lst (ws.map D.str)] ++ Z)[O'.length]? = some (.lst (ws.map .str)) := get_app get_new
          walk_at "px go"
          rw [set_mid, List.append_assoc]
          refine rt_drop (cls_strs (fun x => x) ws) hcl (q ws (by omega) hw (nodup_at (fun x => x.cps.toList[t]?) (fun i => some (97 + (((b : Int) + s * i) % 26).toNat)) hat fun i j hij hj e => ?_))
          have e := Option.some.inj e
          rcases hs with rfl | rfl | rfl | rfl | rfl | rfl <;> omega
theorem wd_len {f : Nat → Nat} {L : List Nat} : (wd f L).length = L.length := by
  show ((L.map f).toArray).size = _
  simp
theorem sg_inj {i j : Nat} (hi : i < 36) (hj : j < 36) (h : sg i = sg j) : i = j := by
  unfold sg at h
  split at h <;> split at h <;> omega
theorem rows_pre {l : List Nat} {m : Nat} (hl : l.length = 12) (hm : m ≤ 12) : (((List.range m).map fun k => l.take (12 - k)).map (wd sg)).Nodup := by
  refine List.pairwise_iff_getElem.mpr fun i j hi hj hij e => ?_
  have e2 := congrArg Str.length e
  simp only [List.getElem_map, List.getElem_range, wd_len, List.length_take] at e2
  simp only [List.length_map, List.length_range] at hi hj
  omega
def liD (L : List Nat) : D := .lst (L.map fun i => D.int (i : Nat))

/-! ### _law_keys -/
abbrev s__law_keys : Stmt := topS 12
theorem sc__law_keys : FnScope ["_law_pen_here", "_law_many", "_law_signs", "_law_size", "_law_at", "_law_step", "_law_base", "_law_k", "_law_rows", "_law_row", "_law_j", "_law_sign"] ["_law_pen_here", "_law_many"] (defScope s__law_keys) := ⟨rfl, rfl, rfl, by decide +kernel, rfl, by decide +kernel, by decide +kernel⟩
def T__law_keys : SpX := fun ds O Q E => match ds with
  | [.own k, .int m] => O[k]? = some .pen ∧ 0 ≤ m ∧ m ≤ 12 ∧ ∀ l : List Str, l.length = m.toNat → (∀ x ∈ l, IsKy x) → l.Nodup → Q (.lst (l.map .str)) O
  | _ => False
theorem len__law_keys : ∀ ds O Q E, T__law_keys ds O Q E → ds.length = 2 := fun ds O Q E h => by
  match ds, h with
  | [.own k, .int m], _ => rfl
theorem ok__law_keys {P : Program} {w : World} {K : PySem.W.Frag} {mg : Str → Option Value} {base : Heap} {f : Addr} {fd : FuncData} (F : Fun K "_law_keys" "_law_keys" s__law_keys f fd) (C__law_take : Cl P w K mg base "_law_take" 1 ["_law_pen_here", "_law_most"] T__law_take) (m_range : mg "range" = none)   :
    FnX P w K mg base 2 f fd ["_law_pen_here", "_law_many"] T__law_keys := by
  skip
  refine fnx_of F sc__law_keys (len__law_keys) _ (fun cdv A outer s H E hr => by
    have tk : Takes (cxOf (L2.CX P w) P w K mg base ["_law_pen_here", "_law_many", "_law_signs", "_law_size", "_law_at", "_law_step", "_law_base", "_law_k", "_law_rows", "_law_row", "_law_j", "_law_sign"] "_law_keys" (defScope s__law_keys) f cdv A outer s H E) (W0 E) := takes_of rfl rfl rfl rfl
    have po : PassesOwn (model P w) (A.deeper (envOfC "_law_keys" (defScope s__law_keys) s.heap.objs.size f cdv)) (envOfC "_law_keys" (defScope s__law_keys) s.heap.objs.size f cdv) (cxOf (L2.CX P w) P w K mg base ["_law_pen_here", "_law_many", "_law_signs", "_law_size", "_law_at", "_law_step", "_law_base", "_law_k", "_law_rows", "_law_row", "_law_j", "_law_sign"] "_law_keys" (defScope s__law_keys) f cdv A outer s H E).xe := passes_of rfl
    exact (psx_cons (psx_set (i := 2) sc__law_keys.nd rfl (Or.inr rfl) px_str)
      (psx_cons (psx_set (i := 3) sc__law_keys.nd rfl (Or.inl rfl) (px_op o_addA px_int (px_cl C__law_take hr tk (pax_cons (xv 0) (pax_cons px_int pax_nil)))))
      (psx_cons (psx_set (i := 4) sc__law_keys.nd rfl (Or.inl rfl) (px_cl C__law_take hr tk (pax_cons (xv 0) (pax_cons (xv 3) pax_nil))))
      (psx_cons (psx_set (i := 5) sc__law_keys.nd rfl (Or.inl rfl) (px_ixA hr.u (px_lst (pax_cons px_int (pax_cons px_int (pax_cons px_int (pax_cons px_int (pax_cons px_int (pax_cons px_int pax_nil))))))) (px_cl C__law_take hr tk (pax_cons (xv 0) (pax_cons px_int pax_nil)))))
      (psx_cons (psx_set (i := 6) sc__law_keys.nd rfl (Or.inr rfl) (px_lc (own := [("_law_j", 10)]) (N := ["_law_pen_here", "_law_many", "_law_signs", "_law_size", "_law_at", "_law_step", "_law_base", "_law_k", "_law_rows", "_law_row", "_law_j", "_law_sign"]) (sc := defScope s__law_keys) rfl sc__law_keys.nd (pix_rng1 (by rfl) m_range (pax_cons px_int pax_nil)) (by decide +kernel) (fun _ _ _ _ _ => (pgx_name (i := 10) sc__law_keys.nd rfl (Or.inl rfl))) (fun _ _ _ _ _ => ptsx_nil) (fun _ _ _ _ _ => (px_cl C__law_take hr takes0 (pax_cons (xv 0) (pax_cons px_int pax_nil))))))
      (psx_cons (psx_setLcO (k := 8) (own := [("_law_k", 7)]) (N := ["_law_pen_here", "_law_many", "_law_signs", "_law_size", "_law_at", "_law_step", "_law_base", "_law_k", "_law_rows", "_law_row", "_law_j", "_law_sign"]) (sc := defScope s__law_keys) rfl sc__law_keys.nd rfl rfl (sw_true rfl rfl rfl (by decide +kernel)) (pix_rng1 (by rfl) m_range (pax_cons (xv 1) pax_nil)) (by decide +kernel) (fun _ _ _ _ _ => (pgx_name (i := 7) sc__law_keys.nd rfl (Or.inl rfl))) (fun _ _ _ _ _ => ptsx_nil) (fun _ _ _ _ _ => (px_slA (xv 6) pox_none (pox_some (px_op o_sub px_int (xv 7))))))
      (psx_cons (psx_if (ptx_cmp c_gt (px_cl C__law_take hr tk (pax_cons (xv 0) (pax_cons px_int pax_nil))) px_int) (psx_cons (psx_set (i := 8) sc__law_keys.nd rfl (Or.inl rfl) (px_lstO pax_nil))
      (psx_cons (psx_for po rfl (pix_rng1 (by rfl) m_range (pax_cons (xv 1) pax_nil)) (pgx_name (i := 7) sc__law_keys.nd rfl (Or.inl rfl)) (psx_cons (psx_set (i := 9) sc__law_keys.nd rfl (Or.inl rfl) (px_slO (xv 6) pox_none (pox_some (px_op o_addA (px_op o_addA (xv 4) px_int) (px_cl C__law_take hr tk (pax_cons (xv 0) (pax_cons (px_op o_sub (xv 3) (xv 4)) pax_nil)))))))
      (psx_cons (psx_asg (px_op o_mod (px_op o_addA (px_ixA hr.u (xv 6) (xv 4)) (px_op o_mul (xv 5) (xv 7))) px_int) (pgx_subA hr.u (xv 9) (xv 4)))
      (psx_cons (psx_expr (px_bm PySem.F.plainAttrs_list PySem.F.slot_list_append PySem.F.type_list_append m_append (xv 8) (pax_cons (px_frz 9) pax_nil)))
      psx_nil))))
      psx_nil)) psx_nil)
      (psx_cons (psx_ret (px_lc (own := [("_law_row", 9)]) (N := ["_law_pen_here", "_law_many", "_law_signs", "_law_size", "_law_at", "_law_step", "_law_base", "_law_k", "_law_rows", "_law_row", "_law_j", "_law_sign"]) (sc := defScope s__law_keys) rfl sc__law_keys.nd (pix_walk (xv 8)) (by decide +kernel) (fun _ _ _ _ _ => (pgx_name (i := 9) sc__law_keys.nd rfl (Or.inl rfl))) (fun _ _ _ _ _ => ptsx_nil) (fun _ _ _ _ _ => (px_bm PySem.F.plainAttrs_str PySem.F.slot_str_join PySem.F.type_str_join m_join px_str (pax_cons (px_lc (own := [("_law_sign", 11)]) (N := ["_law_pen_here", "_law_many", "_law_signs", "_law_size", "_law_at", "_law_step", "_law_base", "_law_k", "_law_rows", "_law_row", "_law_j", "_law_sign"]) (sc := ({ kind := PySem.ScopeKind.function, names := [ (PySem.Str.ofString ".0", PySem.NameKind.local), (PySem.Str.ofString "_law_row", PySem.NameKind.local), (PySem.Str.ofString "_law_signs", PySem.NameKind.cell)], isGenerator := false, isCoroutine := false, more := [] : PySem.Scope })) rfl sc__law_keys.nd (pix_walk (xv 9)) (by decide +kernel) (fun _ _ _ _ _ => (pgx_name (i := 11) sc__law_keys.nd rfl (Or.inl rfl))) (fun _ _ _ _ _ => ptsx_nil) (fun _ _ _ _ _ => (px_ixA hr.u (xv 2) (xv 11)))) pax_nil)))))
      psx_nil))))))))) ?_
  intro ds O Q E h hcl
  match ds, h with
  | [.own k, .int m], h =>
    replace h : O[k]? = some .pen ∧ 0 ≤ m ∧ m ≤ 12 ∧ ∀ l : List Str, l.length = m.toNat → (∀ x ∈ l, IsKy x) → l.Nodup → Q (.lst (l.map .str)) O := h
    obtain ⟨h1, m0, m1, q⟩ := h
    obtain ⟨m, rfl⟩ : ∃ n : Nat, m = n := ⟨m.toNat, by omega⟩
    walk_at "px go"
    intro r1 x1 y1
    walk_at "px go"
    intro t x2 y2
    walk_at "px go"
    intro r3 x3 y3
    walk_at "px go"
    refine pickK (fun d => ∃ i : Int, d = .int i ∧ (i = 1 ∨ i = 5 ∨ i = 7 ∨ i = 11 ∨ i = 13 ∨ i = 17)) x3 (by show r3 < 6; omega) (fun d hd => ?_) (fun d hd => ?_)
    · simp only [List.mem_cons, List.not_mem_nil, or_false] at hd
      rcases hd with rfl | rfl | rfl | rfl | rfl | rfl <;> exact ⟨_, rfl, by omega⟩
    obtain ⟨s, rfl, hs⟩ := hd
    obtain ⟨n, rfl⟩ : ∃ n : Nat, r1 = n := ⟨r1.toNat, by omega⟩
    obtain ⟨t, rfl⟩ : ∃ n : Nat, t = n := ⟨t.toNat, by omega⟩
    walk_at "px go"
    refine lcGo_inv (fun rest acc O' => O' = O ∧ ∃ l : List Nat, acc = l.map (fun i => D.int (i : Nat)) ∧ (∀ i ∈ l, i < 36) ∧ l.length + rest.length = 12) ⟨rfl, [], rfl, (fun _ h => nomatch h), rfl⟩ (fun _ _ _ _ => trivial) ?_ ?_
    · rintro d rest acc O' ⟨rfl, l, rfl, hl, hn⟩ kk kk' hk hk'
      walk_at "px go"
      intro r4 x4 y4
      walk_at "px go"
      obtain ⟨c, rfl⟩ : ∃ n : Nat, r4 = n := ⟨r4.toNat, by omega⟩
      exact hk _ _ ⟨rfl, l ++ [c], by rw [List.map_append]; rfl, fun i hi => by
        rcases List.mem_append.mp hi with hi | hi
        · exact hl i hi
        · rw [List.mem_singleton.mp hi]; omega, by rw [List.length_append, List.length_singleton]; rw [List.length_cons] at hn; omega⟩
    rintro acc O' ⟨rfl, l, rfl, hl, hn⟩
    have hn' : l.length = 12 := by simpa using hn
    walk_at "px go"
    refine lcGo_mapL (Q := _) (fun i : Nat => D.int (i : Nat)) (fun k => liD (l.take (12 - k))) trivial (fun i hi kk kk' hk => ?_) ?_
    · have hi2 : i < m := by simpa using List.mem_range.mp hi
      walk_at "px go"
      rw [cutD_hi (by show (0 : Int) ≤ 12 - i; omega), ← List.map_take, show ((fun i j : Int => i - j) 12 (i : Nat)).toNat = 12 - i from by show (12 - (i : Int)).toNat = _; omega]
      exact hk
    walk_at "px go"
    intro r5 x5 y5
    walk_at "px go"
    refine xite_dec (fun w1 => ?_) (fun w1 => ?_)
    · walk_at "px go"
      have htl : t < l.length := by omega
      obtain ⟨b, hb⟩ : ∃ b, l[t]? = some b := ⟨_, List.getElem?_eq_getElem htl⟩
      have hb36 : b < 36 := hl b (List.mem_of_getElem? hb)
      have eb : atI (l.map fun i => D.int (i : Nat)) (t : Int) = some (.int (b : Nat)) := atI_natP (by rw [List.getElem?_map, hb]; rfl)
      rw [show (List.range (Int.toNat (m : Int))).map (fun i => D.int (i : Nat)) = rng 0 m from rng_0 m]
      generalize hO1 : O' ++ [Cell.lst _] = O1
      have gp : O1[k]? = some .pen := by rw [← hO1]; exact get_app h1
      refine forGo_inv (fun rest G' O2 => ∃ (Ls : List (List Nat)) (Z : Om) (j : Nat), ∃ g7 g9 g10 g11, O2 = O1 ++ [.lst (Ls.map liD)] ++ Z ∧ rest = rng Ls.length j ∧ Ls.length + j = m ∧ (∀ L ∈ Ls, 1 ≤ L.length ∧ L.length ≤ 12 ∧ ∀ i ∈ L, i < 36) ∧ (∀ (i : Nat) L, Ls[i]? = some L → L[t]? = some (((b : Int) + s * i) % 36).toNat) ∧ G' = [some (.own k), some (.int m), some (.str "abcdefghijklmnopqrstuvwxyz0123456789"), some (.int (1 + n)), some (.int t), some (.int s), some (.lst (l.map fun i => D.int (i : Nat))), g7, some (.own O1.length), g9, g10, g11]) ⟨[], [], m, _, _, _, _, by simp, rfl, by simp, (fun _ h => nomatch h), (fun _ _ h => by simp at h), rfl⟩ (fun _ _ _ _ => trivial) ?_ ?_
      · rintro d rest G' O2 ⟨Ls, Z, j, g7, g9, g10, g11, rfl, er, ej, hw, hat, rfl⟩ nx hnx
        obtain ⟨j, rfl, rfl, rfl⟩ := rng_cons er
        have gk : (O1 ++ [Cell.lst (Ls.map liD)] ++ Z)[k]? = some .pen := get_app (get_app gp)
        have gn : (O1 ++ [Cell.lst (Ls.map liD)] ++ Z)[O1.length]? = some (.lst (Ls.map liD)) := get_app get_new
        generalize hO2 : O1 ++ [Cell.lst (Ls.map liD)] ++ Z = O2 at gk gn
        walk_at "px go"
        intro r5 x5 y5
        have y5' : r5 < 1 + n - t := y5
        walk_at "px go"
        obtain ⟨e, rfl⟩ : ∃ e : Nat, r5 = e := ⟨r5.toNat, by omega⟩
        rw [cutD_hi (by omega), ← List.map_take]
        have elt : (l.take ((t : Int) + 1 + e).toNat).length = t + 1 + e := by rw [List.length_take]; omega
        generalize hlt : l.take ((t : Int) + 1 + e).toNat = lt at elt
        have hlt36 : ∀ i ∈ lt, i < 36 := fun i hi => hl i (List.mem_of_mem_take (by rw [hlt]; exact hi))
        walk_at "px go"
        rw [ixN_nat (by rw [List.length_map]; omega)]
        walk_at "px go"
        rw [set_mapI (Int.emod_nonneg _ (by decide))]
        have hv : (((b : Int) + s * (Ls.length : Nat)) % 36).toNat < 36 := by have := Int.emod_nonneg ((b : Int) + s * (Ls.length : Nat)) (b := 36) (by decide); have := Int.emod_lt_of_pos ((b : Int) + s * (Ls.length : Nat)) (b := 36) (by decide); omega
        change (((b : Int) + (fun i j : Int => i * j) s (Ls.length : Nat)) % 36).toNat < 36 at hv
        have hw2 : ∀ i ∈ lt.set t (((b : Int) + (fun i j : Int => i * j) s (Ls.length : Nat)) % 36).toNat, i < 36 := fun i hi => by
          rcases List.mem_or_eq_of_mem_set hi with hi | hi
          · exact hlt36 i hi
          · rw [hi]; exact hv
        have hget : (lt.set t (((b : Int) + (fun i j : Int => i * j) s (Ls.length : Nat)) % 36).toNat)[t]? = some (((b : Int) + (fun i j : Int => i * j) s (Ls.length : Nat)) % 36).toNat := List.getElem?_set_self (by omega)
        have hlen : (lt.set t (((b : Int) + (fun i j : Int => i * j) s (Ls.length : Nat)) % 36).toNat).length = t + 1 + e := by rw [List.length_set]; exact elt
        generalize lt.set t (((b : Int) + (fun i j : Int => i * j) s (Ls.length : Nat)) % 36).toNat = L at hw2 hget hlen
        have gl : (O2 ++ [Cell.lst (L.map fun i => D.int (i : Nat))])[O2.length]? = some (.lst (L.map fun i => D.int (i : Nat))) := get_new
        walk_at "px go"
        rw [← hO2, List.append_assoc (O1 ++ [Cell.lst (Ls.map liD)]), set_mid]
        refine hnx _ _ ⟨Ls ++ [L], Z ++ [Cell.dead], j, _, _, _, _, by rw [List.map_append]; rfl, by rw [List.length_append]; rfl, by rw [List.length_append, List.length_singleton]; omega, fun x hx => ?_, fun i x hx => ?_, rfl⟩
        · rcases List.mem_append.mp hx with hx | hx
          · exact hw x hx
          · rw [List.mem_singleton.mp hx]; exact ⟨by omega, by omega, hw2⟩
        · by_cases hi : i < Ls.length
          · rw [List.getElem?_append_left hi] at hx; exact hat i x hx
          · rw [List.getElem?_append_right (by omega)] at hx
            have hi2 : i - Ls.length = 0 := by
              have := (List.getElem?_eq_some_iff.mp hx).1
              simpa using this
            obtain rfl : i = Ls.length := by omega
            rw [Nat.sub_self] at hx
            obtain rfl : L = x := by simpa using hx
            exact hget
      · rintro G' O2 ⟨Ls, Z, j, g7, g9, g10, g11, rfl, er, ej, hL, hat, rfl⟩
        obtain rfl := rng_nil er
        have hgrd : (O1 ++ [Cell.lst (Ls.map liD)] ++ Z)[O1.length]? = some (.lst (Ls.map liD)) := get_app get_new
        have hlen : Ls.length = m := by omega
        have hnd : (Ls.map (wd sg)).Nodup := by
          refine nodup_at (fun x => x.cps.toList[t]?) (fun i => some (sg (((b : Int) + s * i) % 36).toNat)) (fun i x hx => ?_) fun i j hij hj e => ?_
          · rw [List.getElem?_map] at hx
            obtain ⟨L, e1, rfl⟩ := Option.map_eq_some_iff.mp hx
            show ((L.map sg).toArray).toList[t]? = _
            rw [List.toList_toArray, List.getElem?_map, hat i L e1]; rfl
          · have e := sg_inj (by omega) (by omega) (Option.some.inj e)
            rw [List.length_map] at hj
            rcases hs with rfl | rfl | rfl | rfl | rfl | rfl <;> omega
        walk_at "px go"
        refine lcGo_mapL (Q := _) liD (fun L => .str (wd sg L)) hgrd (fun L hL' kk kk' hk => ?_) ?_
        · obtain ⟨z0, z1, z2⟩ := hL L hL'
          walk_at "px go"
          refine lcGo_mapL (Q := _) (fun i : Nat => D.int (i : Nat)) (fun i => .str ⟨#[sg i]⟩) trivial (fun i hi kk2 kk2' hk2 => ?_) ?_
          · have e2 : atI ("abcdefghijklmnopqrstuvwxyz0123456789" : Str).cps.toList (i : Int) = some (sg i) := atI_natP (sg_at (z2 i hi))
            walk_at "px go"
            exact hk2
          rw [show L.map (fun i => D.str ⟨#[sg i]⟩) = (L.map sg).map (fun c => D.str ⟨#[c]⟩) from by rw [List.map_map]; rfl]
          walk_at "px go"
          rw [strs_map (fun c : Nat => (⟨#[c]⟩ : Str))]
          walk_at "px go"
          refine ⟨by rw [strs_sum1]; show (L.map sg).length + _ * 0 ≤ _; rw [List.length_map]; omega, ?_⟩
          walk_at "px go"
          rw [join_signs']
          exact hk
        walk_at "px go"
        rw [show Ls.map (fun L => D.str (wd sg L)) = (Ls.map (wd sg)).map .str from by rw [List.map_map]; rfl]
        have fin := q (Ls.map (wd sg)) (by rw [List.length_map, hlen]; rfl) (fun x hx => by
          obtain ⟨L, hL', rfl⟩ := List.mem_map.mp hx
          obtain ⟨z0, z1, z2⟩ := hL L hL'
          exact wd_ky z0 z1 z2) hnd
        rw [← hO1, List.append_assoc, List.append_assoc]
        exact rt_drop (cls_strs (fun x => x) _) hcl fin
    · walk_at "px go"
      obtain ⟨Ls, hLs⟩ : ∃ Ls, Ls = (List.range m).map fun k => l.take (12 - k) := ⟨_, rfl⟩
      rw [show (List.range (Int.toNat (m : Int))).map (fun k => liD (l.take (12 - k))) = Ls.map liD from by rw [hLs, List.map_map]; rfl]
      have hgrd : (O' ++ [Cell.lst (Ls.map liD)])[O'.length]? = some (.lst (Ls.map liD)) := get_new
      have hlen : Ls.length = m := by rw [hLs]; simp
      have hL : ∀ L ∈ Ls, 1 ≤ L.length ∧ L.length ≤ 12 ∧ ∀ i ∈ L, i < 36 := fun L hL' => by
        rw [hLs] at hL'
        obtain ⟨i, hi, rfl⟩ := List.mem_map.mp hL'
        have := List.mem_range.mp hi
        rw [List.length_take]
        exact ⟨by omega, by omega, fun j hj => hl j (List.mem_of_mem_take hj)⟩
      have hnd : (Ls.map (wd sg)).Nodup := by rw [hLs]; exact rows_pre hn' (by omega)
      refine lcGo_mapL (Q := _) liD (fun L => .str (wd sg L)) hgrd (fun L hL' kk kk' hk => ?_) ?_
      · obtain ⟨z0, z1, z2⟩ := hL L hL'
        walk_at "px go"
        refine lcGo_mapL (Q := _) (fun i : Nat => D.int (i : Nat)) (fun i => .str ⟨#[sg i]⟩) trivial (fun i hi kk2 kk2' hk2 => ?_) ?_
        · have e2 : atI ("abcdefghijklmnopqrstuvwxyz0123456789" : Str).cps.toList (i : Int) = some (sg i) := atI_natP (sg_at (z2 i hi))
          walk_at "px go"
          exact hk2
        rw [show L.map (fun i => D.str ⟨#[sg i]⟩) = (L.map sg).map (fun c => D.str ⟨#[c]⟩) from by rw [List.map_map]; rfl]
        walk_at "px go"
        rw [strs_map (fun c : Nat => (⟨#[c]⟩ : Str))]
        walk_at "px go"
        refine ⟨by rw [strs_sum1]; show (L.map sg).length + _ * 0 ≤ _; rw [List.length_map]; omega, ?_⟩
        walk_at "px go"
        rw [join_signs']
        exact hk
      walk_at "px go"
      rw [show Ls.map (fun L => D.str (wd sg L)) = (Ls.map (wd sg)).map .str from by rw [List.map_map]; rfl]
      have fin := q (Ls.map (wd sg)) (by rw [List.length_map, hlen]; rfl) (fun x hx => by
        obtain ⟨L, hL', rfl⟩ := List.mem_map.mp hx
        obtain ⟨z0, z1, z2⟩ := hL L hL'
        exact wd_ky z0 z1 z2) hnd
      exact rt_drop (cls_strs (fun x => x) _) hcl fin
def All2 (R : D → D → Prop) : List D → List D → Prop
  | [], [] => True
  | d :: ds, e :: es => R d e ∧ All2 R ds es
  | _, _ => False
/-- what a thing holds -/
def SmE (O : Om) : Nat → D → D → Prop
  | 0, _, _ => False
  | n + 1, d, e => (∃ x, e = .str x ∧ d = .str x) ∨ (∃ i, e = .int i ∧ d = .int i) ∨ (e = .non ∧ d = .non) ∨ (∃ ds es, d = .tup ds ∧ e = .tup es ∧ All2 (SmE O n) ds es) ∨ (∃ ds es, lstD O d = some ds ∧ e = .lst es ∧ All2 (SmE O n) ds es)
def Prs (O : Om) (n : Nat) (ps : List D) : Prop := ∀ p ∈ ps, ∃ x y e, p = .tup [x, y] ∧ SmE O n x e ∧ SmE O n y e
theorem zip_prs {O : Om} {n : Nat} : ∀ {ds fs es : List D}, All2 (SmE O n) ds es → All2 (SmE O n) fs es → ds.length = fs.length ∧ Prs O n (zipD ds fs)
  | [], [], [], _, _ => ⟨rfl, fun p h => nomatch h⟩
  | d :: ds, f :: fs, e :: es, h, g => by
    obtain ⟨h1, h2⟩ := zip_prs h.2 g.2
    refine ⟨by rw [List.length_cons, List.length_cons, h1], fun p hp => ?_⟩
    rcases List.mem_cons.mp (show p ∈ D.tup [d, f] :: zipD ds fs from hp) with rfl | hp
    · exact ⟨d, f, e, rfl, h.1, g.1⟩
    · exact h2 p hp
  | [], [], _ :: _, h, _ => h.elim
  | _ :: _, [], [], h, _ => h.elim
  | _ :: _, _ :: _, [], h, _ => h.elim
  | [], _ :: _, [], _, g => g.elim
  | [], _ :: _, _ :: _, h, _ => h.elim
  | _ :: _, [], _ :: _, _, g => g.elim
theorem lst_or {O : Om} {d : D} {ds : List D} (h : lstD O d = some ds) : d = .lst ds ∨ ∃ k, d = .own k ∧ O[k]? = some (.lst ds) := by
  cases d with
  | lst es => cases h; exact .inl rfl
  | own k => exact .inr ⟨k, rfl, lstD_own h⟩
  | _ => cases h
def smB : Nat → D → Bool
  | 0, _ => false
  | n + 1, d => match d with
    | .str _ => true
    | .int _ => true
    | .non => true
    | .tup ds => ds.all (smB n)
    | .lst ds => ds.all (smB n)
    | _ => false
theorem all2_refl {O : Om} {n : Nat} (h : ∀ d, smB n d = true → SmE O n d d) : ∀ {ds : List D}, ds.all (smB n) = true → All2 (SmE O n) ds ds
  | [], _ => trivial
  | d :: ds, e => by
    rw [List.all_cons, Bool.and_eq_true] at e
    exact ⟨h d e.1, all2_refl h e.2⟩
theorem sm_refl {O : Om} : ∀ {n : Nat} {d : D}, smB n d = true → SmE O n d d
  | 0, _, h => nomatch h
  | n + 1, d, h => by
    cases d with
    | str x => exact .inl ⟨x, rfl, rfl⟩
    | int x => exact .inr (.inl ⟨x, rfl, rfl⟩)
    | non => exact .inr (.inr (.inl ⟨rfl, rfl⟩))
    | tup ds => exact .inr (.inr (.inr (.inl ⟨ds, ds, rfl, rfl, all2_refl (fun d => sm_refl) h⟩)))
    | lst ds => exact .inr (.inr (.inr (.inr ⟨ds, ds, rfl, rfl, all2_refl (fun d => sm_refl) h⟩)))
    | _ => cases h
theorem sm_own {O : Om} {n k : Nat} {ds : List D} (h : O[k]? = some (.lst ds)) (hs : smB (n + 1) (.lst ds) = true) : SmE O (n + 1) (.own k) (.lst ds) :=
  .inr (.inr (.inr (.inr ⟨ds, ds, lstD_l h, rfl, all2_refl (fun d => sm_refl) hs⟩)))

/-! ### _law_same -/
abbrev s__law_same : Stmt := topS 16
theorem sc__law_same : FnScope ["_law_found", "_law_due", "_law_one", "_law_other"] ["_law_found", "_law_due"] (defScope s__law_same) := ⟨rfl, rfl, rfl, by decide +kernel, rfl, by decide +kernel, by decide +kernel⟩
section
variable (n : Nat)
def T__law_same (n : Nat) : SpX := fun ds O Q E => match ds with
  | [a, b] => ∃ e, SmE O (n + 1) a e ∧ SmE O (n + 1) b e ∧ Q (.bl true) O
  | _ => False
theorem len__law_same (n : Nat) : ∀ ds O Q E, T__law_same n ds O Q E → ds.length = 2 := fun ds O Q E h => by
  match ds, h with
  | [a, b], _ => rfl
end
def TR__law_same : Nat → SpX
  | 0 => fun _ _ _ _ => False
  | n + 1 => T__law_same n
theorem ok__law_same {P : Program} {w : World} {K : PySem.W.Frag} {mg : Str → Option Value} {base : Heap} {f : Addr} {fd : FuncData} (F : Fun K "_law_same" "_law_same" s__law_same f fd) {kk n : Nat} (C__law_same : Cl P w K mg base "_law_same" kk ["_law_found", "_law_due"] (TR__law_same n)) (m_isinstance : mg "isinstance" = none) (m_bool : mg "bool" = none) (m_int : mg "int" = none) (m_str : mg "str" = none) (m_list : mg "list" = none) (m_tuple : mg "tuple" = none) (m_all : mg "all" = none) (m_zip : mg "zip" = none) (m_len : mg "len" = none)   :
    FnX P w K mg base (kk + 0 + 1) f fd ["_law_found", "_law_due"] (T__law_same n) := by
  skip
  refine fnx_of F sc__law_same (len__law_same n) _ (fun cdv A outer s H E hr => by
    have tk : Takes (cxOf (L2.CX P w) P w K mg base ["_law_found", "_law_due", "_law_one", "_law_other"] "_law_same" (defScope s__law_same) f cdv A outer s H E) (W0 E) := takes_of rfl rfl rfl rfl
    have po : PassesOwn (model P w) (A.deeper (envOfC "_law_same" (defScope s__law_same) s.heap.objs.size f cdv)) (envOfC "_law_same" (defScope s__law_same) s.heap.objs.size f cdv) (cxOf (L2.CX P w) P w K mg base ["_law_found", "_law_due", "_law_one", "_law_other"] "_law_same" (defScope s__law_same) f cdv A outer s H E).xe := passes_of rfl
    exact (psx_cons (psx_if (ptx_tru (px_isi2 (T := .tList) (U := .tTuple) (by decide +kernel) (by decide +kernel) (by rfl) m_isinstance (by rfl) m_list (by decide +kernel) (by rfl) m_tuple (by decide +kernel) (xv 1))) (psx_cons (psx_if (PWX.pt (pwx_or (ptx_cmp (c_ne hr.u) (px_isi (T := .tList) (by decide +kernel) (by rfl) m_isinstance (by rfl) m_list (by decide +kernel) (xv 0)) (px_isi (T := .tList) (by decide +kernel) (by rfl) m_isinstance (by rfl) m_list (by decide +kernel) (xv 1))) (pwx_or1 (ptx_cmp (c_ne hr.u) (px_isi (T := .tTuple) (by decide +kernel) (by rfl) m_isinstance (by rfl) m_tuple (by decide +kernel) (xv 0)) (px_isi (T := .tTuple) (by decide +kernel) (by rfl) m_isinstance (by rfl) m_tuple (by decide +kernel) (xv 1)))))) (psx_cons (psx_ret px_bl)
      psx_nil) psx_nil)
      (psx_cons (psx_ret (px_and (px_cmp (c_eq hr.u) (px_callB f_lenA (by rfl) m_len (by decide +kernel) (pax_cons (xv 0) pax_nil)) (px_callB f_lenA (by rfl) m_len (by decide +kernel) (pax_cons (xv 1) pax_nil))) (px_one (px_callB (f_all rfl) (by rfl) m_all (by decide +kernel) (pax_cons (px_lc (own := [("_law_one", 2), ("_law_other", 3)]) (N := ["_law_found", "_law_due", "_law_one", "_law_other"]) (sc := defScope s__law_same) rfl sc__law_same.nd (pix_zipA (by rfl) m_zip (xv 0) (xv 1)) (by decide +kernel) (fun _ _ _ _ _ => (pgx_seq (n := 2) rfl (pgsx_cons (i := 2) sc__law_same.nd rfl (Or.inl rfl) (pgsx_cons (i := 3) sc__law_same.nd rfl (Or.inl rfl) pgsx_nil)))) (fun _ _ _ _ _ => ptsx_nil) (fun _ _ _ _ _ => (px_cl C__law_same hr takes0 (pax_cons (xv 2) (pax_cons (xv 3) pax_nil)) (hk := by exact decide_eq_true (by omega))))) pax_nil)))))
      psx_nil)) psx_nil)
      (psx_cons (psx_if (ptx_cmp c_isA (xv 1) px_non) (psx_cons (psx_ret (px_cmp c_isA (xv 0) px_non))
      psx_nil) psx_nil)
      (psx_cons (psx_if (ptx_tru (px_isi (T := .tStr) (by decide +kernel) (by rfl) m_isinstance (by rfl) m_str (by decide +kernel) (xv 1))) (psx_cons (psx_ret (px_and (px_isi (T := .tStr) (by decide +kernel) (by rfl) m_isinstance (by rfl) m_str (by decide +kernel) (xv 0)) (px_one (px_cmp (c_eq hr.u) (xv 0) (xv 1)))))
      psx_nil) psx_nil)
      (psx_cons (psx_ret (px_and (px_isi (T := .tInt) (by decide +kernel) (by rfl) m_isinstance (by rfl) m_int (by decide +kernel) (xv 0)) (px_and (px_not (px_isi (T := .tBool) (by decide +kernel) (by rfl) m_isinstance (by rfl) m_bool (by decide +kernel) (xv 0))) (px_one (px_cmp (c_eq hr.u) (xv 0) (xv 1))))))
      psx_nil))))) ?_
  intro ds O Q E h hcl
  match ds, h with
  | [a, b], h =>
    replace h : ∃ e, SmE O (n + 1) a e ∧ SmE O (n + 1) b e ∧ Q (.bl true) O := h
    obtain ⟨e, ha, hb, q⟩ := h
    rcases ha with ⟨x, rfl, rfl⟩ | ⟨i, rfl, rfl⟩ | ⟨rfl, rfl⟩ | ⟨ds, es, rfl, rfl, ha⟩ | ⟨ds, es, ha1, rfl, ha⟩
    · rcases hb with ⟨y, e1, rfl⟩ | ⟨i, e1, rfl⟩ | ⟨e1, rfl⟩ | ⟨ds, es, rfl, e1, hb⟩ | ⟨ds, es, hb1, e1, hb⟩ <;> cases e1
      walk_at "px go"
      refine .inl ?_
      rw [show D.eq (snap O (D.str x)) (snap O (D.str x)) = true from by show (x == x) = true; simp]
      exact q
    · rcases hb with ⟨y, e1, rfl⟩ | ⟨i, e1, rfl⟩ | ⟨e1, rfl⟩ | ⟨ds, es, rfl, e1, hb⟩ | ⟨ds, es, hb1, e1, hb⟩ <;> cases e1
      walk_at "px go"
      refine .inl ?_
      rw [show D.eq (snap O (D.int i)) (snap O (D.int i)) = true from by show (i == i) = true; simp]
      exact q
    · rcases hb with ⟨y, e1, rfl⟩ | ⟨i, e1, rfl⟩ | ⟨e1, rfl⟩ | ⟨ds, es, rfl, e1, hb⟩ | ⟨ds, es, hb1, e1, hb⟩ <;> cases e1
      walk_at "px go"
      exact .inl q
    · rcases hb with ⟨y, e1, rfl⟩ | ⟨i, e1, rfl⟩ | ⟨e1, rfl⟩ | ⟨fs, es, rfl, e1, hb⟩ | ⟨fs, es, hb1, e1, hb⟩ <;> cases e1
      obtain ⟨hl, hps⟩ := zip_prs ha hb
      walk_at "px go"
      refine xite_t (by show (((ds.length : Nat) : Int) == ((fs.length : Nat) : Int)) = true; rw [hl]; simp) ?_
      walk_at "px go"
      refine lcGo_inv (fun rest acc O' => O' = O ∧ Prs O n rest ∧ ∃ bs : List Bool, acc = bs.map .bl ∧ ∀ b ∈ bs, b = true) ⟨rfl, hps, [], rfl, (fun _ h => nomatch h)⟩ (fun _ _ _ h => by obtain ⟨rfl, _⟩ := h; first | trivial | exact ⟨trivial, gb⟩ | exact ⟨ga, trivial⟩ | exact ⟨ga, gb⟩) ?_ ?_
      · rintro d rest acc O' ⟨rfl, hp, bs, rfl, hbs⟩ kk kk' hk hk'
        obtain ⟨x, y, e, rfl, g1, g2⟩ := hp d (.head _)
        obtain ⟨n, rfl⟩ : ∃ m, n = m + 1 := by
          cases n with
          | zero => exact (show False from g1).elim
          | succ m => exact ⟨m, rfl⟩
        walk_at "px go"
        refine ⟨e, g1, g2, ?_⟩
        exact hk _ _ ⟨rfl, fun p hp' => hp p (.tail _ hp'), bs ++ [true], by rw [List.map_append]; rfl, fun b hb => by
          rcases List.mem_append.mp hb with hb | hb
          · exact hbs b hb
          · rw [List.mem_singleton.mp hb]⟩
      · rintro acc O' ⟨rfl, -, bs, rfl, hbs⟩
        walk_at "px go"
        rw [show (bs.map fun c => c).all id = true from by rw [List.map_id']; exact List.all_eq_true.mpr fun b hb => hbs b hb]
        exact .inl q
    · rcases hb with ⟨y, e1, rfl⟩ | ⟨i, e1, rfl⟩ | ⟨e1, rfl⟩ | ⟨fs, es, rfl, e1, hb⟩ | ⟨fs, es, hb1, e1, hb⟩ <;> cases e1
      obtain ⟨hl, hps⟩ := zip_prs ha hb
      rcases lst_or ha1 with rfl | ⟨ka, rfl, ga⟩
      · rcases lst_or hb1 with rfl | ⟨kb, rfl, gb⟩
        · walk_at "px go"
          refine xite_t (by show (((ds.length : Nat) : Int) == ((fs.length : Nat) : Int)) = true; rw [hl]; simp) ?_
          walk_at "px go"
          refine lcGo_inv (fun rest acc O' => O' = O ∧ Prs O n rest ∧ ∃ bs : List Bool, acc = bs.map .bl ∧ ∀ b ∈ bs, b = true) ⟨rfl, hps, [], rfl, (fun _ h => nomatch h)⟩ (fun _ _ _ h => by obtain ⟨rfl, _⟩ := h; first | trivial | exact ⟨trivial, gb⟩ | exact ⟨ga, trivial⟩ | exact ⟨ga, gb⟩) ?_ ?_
          · rintro d rest acc O' ⟨rfl, hp, bs, rfl, hbs⟩ kk kk' hk hk'
            obtain ⟨x, y, e, rfl, g1, g2⟩ := hp d (.head _)
            obtain ⟨n, rfl⟩ : ∃ m, n = m + 1 := by
              cases n with
              | zero => exact (show False from g1).elim
              | succ m => exact ⟨m, rfl⟩
            walk_at "px go"
            refine ⟨e, g1, g2, ?_⟩
            exact hk _ _ ⟨rfl, fun p hp' => hp p (.tail _ hp'), bs ++ [true], by rw [List.map_append]; rfl, fun b hb => by
              rcases List.mem_append.mp hb with hb | hb
              · exact hbs b hb
              · rw [List.mem_singleton.mp hb]⟩
          · rintro acc O' ⟨rfl, -, bs, rfl, hbs⟩
            walk_at "px go"
            rw [show (bs.map fun c => c).all id = true from by rw [List.map_id']; exact List.all_eq_true.mpr fun b hb => hbs b hb]
            exact .inl q
        · walk_at "px go"
          refine xite_t (by show (((ds.length : Nat) : Int) == ((fs.length : Nat) : Int)) = true; rw [hl]; simp) ?_
          walk_at "px go"
          refine lcGo_inv (fun rest acc O' => O' = O ∧ Prs O n rest ∧ ∃ bs : List Bool, acc = bs.map .bl ∧ ∀ b ∈ bs, b = true) ⟨rfl, hps, [], rfl, (fun _ h => nomatch h)⟩ (fun _ _ _ h => by obtain ⟨rfl, _⟩ := h; first | trivial | exact ⟨trivial, gb⟩ | exact ⟨ga, trivial⟩ | exact ⟨ga, gb⟩) ?_ ?_
          · rintro d rest acc O' ⟨rfl, hp, bs, rfl, hbs⟩ kk kk' hk hk'
            obtain ⟨x, y, e, rfl, g1, g2⟩ := hp d (.head _)
            obtain ⟨n, rfl⟩ : ∃ m, n = m + 1 := by
              cases n with
              | zero => exact (show False from g1).elim
              | succ m => exact ⟨m, rfl⟩
            walk_at "px go"
            refine ⟨e, g1, g2, ?_⟩
            exact hk _ _ ⟨rfl, fun p hp' => hp p (.tail _ hp'), bs ++ [true], by rw [List.map_append]; rfl, fun b hb => by
              rcases List.mem_append.mp hb with hb | hb
              · exact hbs b hb
              · rw [List.mem_singleton.mp hb]⟩
          · rintro acc O' ⟨rfl, -, bs, rfl, hbs⟩
            walk_at "px go"
            rw [show (bs.map fun c => c).all id = true from by rw [List.map_id']; exact List.all_eq_true.mpr fun b hb => hbs b hb]
            exact .inl q
      · rcases lst_or hb1 with rfl | ⟨kb, rfl, gb⟩
        · walk_at "px go"
          refine xite_t (by show (((ds.length : Nat) : Int) == ((fs.length : Nat) : Int)) = true; rw [hl]; simp) ?_
          walk_at "px go"
          refine lcGo_inv (fun rest acc O' => O' = O ∧ Prs O n rest ∧ ∃ bs : List Bool, acc = bs.map .bl ∧ ∀ b ∈ bs, b = true) ⟨rfl, hps, [], rfl, (fun _ h => nomatch h)⟩ (fun _ _ _ h => by obtain ⟨rfl, _⟩ := h; first | trivial | exact ⟨trivial, gb⟩ | exact ⟨ga, trivial⟩ | exact ⟨ga, gb⟩) ?_ ?_
          · rintro d rest acc O' ⟨rfl, hp, bs, rfl, hbs⟩ kk kk' hk hk'
            obtain ⟨x, y, e, rfl, g1, g2⟩ := hp d (.head _)
            obtain ⟨n, rfl⟩ : ∃ m, n = m + 1 := by
              cases n with
              | zero => exact (show False from g1).elim
              | succ m => exact ⟨m, rfl⟩
            walk_at "px go"
            refine ⟨e, g1, g2, ?_⟩
            exact hk _ _ ⟨rfl, fun p hp' => hp p (.tail _ hp'), bs ++ [true], by rw [List.map_append]; rfl, fun b hb => by
              rcases List.mem_append.mp hb with hb | hb
              · exact hbs b hb
              · rw [List.mem_singleton.mp hb]⟩
          · rintro acc O' ⟨rfl, -, bs, rfl, hbs⟩
            walk_at "px go"
            rw [show (bs.map fun c => c).all id = true from by rw [List.map_id']; exact List.all_eq_true.mpr fun b hb => hbs b hb]
            exact .inl q
        · walk_at "px go"
          refine xite_t (by show (((ds.length : Nat) : Int) == ((fs.length : Nat) : Int)) = true; rw [hl]; simp) ?_
          walk_at "px go"
          refine lcGo_inv (fun rest acc O' => O' = O ∧ Prs O n rest ∧ ∃ bs : List Bool, acc = bs.map .bl ∧ ∀ b ∈ bs, b = true) ⟨rfl, hps, [], rfl, (fun _ h => nomatch h)⟩ (fun _ _ _ h => by obtain ⟨rfl, _⟩ := h; first | trivial | exact ⟨trivial, gb⟩ | exact ⟨ga, trivial⟩ | exact ⟨ga, gb⟩) ?_ ?_
          · rintro d rest acc O' ⟨rfl, hp, bs, rfl, hbs⟩ kk kk' hk hk'
            obtain ⟨x, y, e, rfl, g1, g2⟩ := hp d (.head _)
            obtain ⟨n, rfl⟩ : ∃ m, n = m + 1 := by
              cases n with
              | zero => exact (show False from g1).elim
              | succ m => exact ⟨m, rfl⟩
            walk_at "px go"
            refine ⟨e, g1, g2, ?_⟩
            exact hk _ _ ⟨rfl, fun p hp' => hp p (.tail _ hp'), bs ++ [true], by rw [List.map_append]; rfl, fun b hb => by
              rcases List.mem_append.mp hb with hb | hb
              · exact hbs b hb
              · rw [List.mem_singleton.mp hb]⟩
          · rintro acc O' ⟨rfl, -, bs, rfl, hbs⟩
            walk_at "px go"
            rw [show (bs.map fun c => c).all id = true from by rw [List.map_id']; exact List.all_eq_true.mpr fun b hb => hbs b hb]
            exact .inl q
def askD (h w x : Str) (n : Int) : D := .tup [.str h, .tup [.str w, .str x, .int n]]
def asksW (ws : List Str) (n : Int) : List D := match ws with
  | [w, a, b] => if w = "send" then [askD a "add" b n] else if w = "fetch" then [askD a "take" b n] else []
  | [_, a, b, c] => [askD a "take" c n, askD b "add" c n]
  | _ => []
/-- the words of a deed -/
def deedW (ws : List Str) : Prop := match ws with
  | [w, _] => w = "add" ∨ w = "take"
  | [w, _, _] => w = "move" ∨ w = "send" ∨ w = "fetch"
  | [w, _, _, _] => w = "pass"
  | _ => False

/-! ### _law_deed -/
abbrev s__law_deed : Stmt := topS 14
theorem sc__law_deed : FnScope ["_law_pen_here", "_law_names_here", "_law_word", "_law_one", "_law_other", "_law_name", "_law_n"] ["_law_pen_here", "_law_names_here"] (defScope s__law_deed) := ⟨rfl, rfl, rfl, by decide +kernel, rfl, by decide +kernel, by decide +kernel⟩
def T__law_deed : SpX := fun ds O Q E => match ds with
  | [.own pk, .lst names] => ∃ l : List Str, O[pk]? = some .pen ∧ names = l.map .str ∧ 2 ≤ l.length ∧ l.length ≤ 20 ∧ ∀ ws n, deedW ws → 1 ≤ n → n ≤ 1000000000000 → Q (.tup (ws.map .str ++ [.int n])) O
  | _ => False
theorem len__law_deed : ∀ ds O Q E, T__law_deed ds O Q E → ds.length = 2 := fun ds O Q E h => by
  match ds, h with
  | [.own pk, .lst names], _ => rfl
theorem ok__law_deed {P : Program} {w : World} {K : PySem.W.Frag} {mg : Str → Option Value} {base : Heap} {f : Addr} {fd : FuncData} (F : Fun K "_law_deed" "_law_deed" s__law_deed f fd) (C__law_number : Cl P w K mg base "_law_number" 2 ["_law_pen_here", "_law_least", "_law_most"] T__law_number) (C__law_take : Cl P w K mg base "_law_take" 1 ["_law_pen_here", "_law_most"] T__law_take) (m_len : mg "len" = none)   :
    FnX P w K mg base 3 f fd ["_law_pen_here", "_law_names_here"] T__law_deed := by
  skip
  refine fnx_of F sc__law_deed (len__law_deed) _ (fun cdv A outer s H E hr => by
    have tk : Takes (cxOf (L2.CX P w) P w K mg base ["_law_pen_here", "_law_names_here", "_law_word", "_law_one", "_law_other", "_law_name", "_law_n"] "_law_deed" (defScope s__law_deed) f cdv A outer s H E) (W0 E) := takes_of rfl rfl rfl rfl
    have po : PassesOwn (model P w) (A.deeper (envOfC "_law_deed" (defScope s__law_deed) s.heap.objs.size f cdv)) (envOfC "_law_deed" (defScope s__law_deed) s.heap.objs.size f cdv) (cxOf (L2.CX P w) P w K mg base ["_law_pen_here", "_law_names_here", "_law_word", "_law_one", "_law_other", "_law_name", "_law_n"] "_law_deed" (defScope s__law_deed) f cdv A outer s H E).xe := passes_of rfl
    exact (psx_cons (psx_set (i := 2) sc__law_deed.nd rfl (Or.inl rfl) (px_ixA hr.u (px_lst (pax_cons px_str (pax_cons px_str (pax_cons px_str (pax_cons px_str (pax_cons px_str (pax_cons px_str pax_nil))))))) (px_cl C__law_take hr tk (pax_cons (xv 0) (pax_cons px_int pax_nil)))))
      (psx_cons (psx_set (i := 3) sc__law_deed.nd rfl (Or.inl rfl) (px_cl C__law_take hr tk (pax_cons (xv 0) (pax_cons (px_callB f_lenA (by rfl) m_len (by decide +kernel) (pax_cons (xv 1) pax_nil)) pax_nil))))
      (psx_cons (psx_set (i := 4) sc__law_deed.nd rfl (Or.inl rfl) (px_ixA hr.u (xv 1) (px_op o_mod (px_op o_addA (px_op o_addA (xv 3) px_int) (px_cl C__law_take hr tk (pax_cons (xv 0) (pax_cons (px_op o_sub (px_callB f_lenA (by rfl) m_len (by decide +kernel) (pax_cons (xv 1) pax_nil)) px_int) pax_nil)))) (px_callB f_lenA (by rfl) m_len (by decide +kernel) (pax_cons (xv 1) pax_nil)))))
      (psx_cons (psx_set (i := 5) sc__law_deed.nd rfl (Or.inl rfl) (px_ixA hr.u (xv 1) (px_cl C__law_take hr tk (pax_cons (xv 0) (pax_cons (px_callB f_lenA (by rfl) m_len (by decide +kernel) (pax_cons (xv 1) pax_nil)) pax_nil)))))
      (psx_cons (psx_set (i := 6) sc__law_deed.nd rfl (Or.inl rfl) (px_cl C__law_number hr tk (pax_cons (xv 0) (pax_cons px_int (pax_cons (px_op o_pow px_int px_int) pax_nil)))))
      (psx_cons (psx_if (ptx_cmp (c_inA hr.u) (xv 2) (px_tup (pax_cons px_str (pax_cons px_str pax_nil)))) (psx_cons (psx_ret (px_tup (pax_cons (xv 2) (pax_cons (xv 5) (pax_cons (xv 6) pax_nil)))))
      psx_nil) psx_nil)
      (psx_cons (psx_if (ptx_cmp (c_eq hr.u) (xv 2) px_str) (psx_cons (psx_ret (px_tup (pax_cons (xv 2) (pax_cons (px_ixA hr.u (xv 1) (xv 3)) (pax_cons (xv 4) (pax_cons (xv 6) pax_nil))))))
      psx_nil) psx_nil)
      (psx_cons (psx_if (ptx_cmp (c_eq hr.u) (xv 2) px_str) (psx_cons (psx_ret (px_tup (pax_cons (xv 2) (pax_cons (px_ixA hr.u (xv 1) (xv 3)) (pax_cons (xv 4) (pax_cons (xv 5) (pax_cons (xv 6) pax_nil)))))))
      psx_nil) psx_nil)
      (psx_cons (psx_ret (px_tup (pax_cons (xv 2) (pax_cons (xv 4) (pax_cons (xv 5) (pax_cons (xv 6) pax_nil))))))
      psx_nil)))))))))) ?_
  intro ds O Q E h hcl
  match ds, h with
  | [.own pk, .lst names], h =>
    replace h : ∃ l : List Str, O[pk]? = some .pen ∧ names = l.map .str ∧ 2 ≤ l.length ∧ l.length ≤ 20 ∧ ∀ ws n, deedW ws → 1 ≤ n → n ≤ 1000000000000 → Q (.tup (ws.map .str ++ [.int n])) O := h
    obtain ⟨l, hp, rfl, l1, l2, q⟩ := h
    have ll : ((l.map D.str).length : Int) = (l.length : Nat) := by rw [List.length_map]
    walk_at "px go"
    intro r1 x1 y1
    walk_at "px go"
    refine pickK (fun d => ∃ w : Str, d = .str w ∧ (w = "add" ∨ w = "take" ∨ w = "move" ∨ w = "send" ∨ w = "fetch" ∨ w = "pass")) x1 y1 (fun d hd => ?_) (fun d hd => ?_)
    · simp only [List.mem_cons, List.not_mem_nil, or_false] at hd
      rcases hd with rfl | rfl | rfl | rfl | rfl | rfl <;> exact ⟨_, rfl, by simp⟩
    obtain ⟨w, rfl, hw⟩ := hd
    walk_at "px go"
    intro r2 x2 y2
    rw [ll] at y2
    walk_at "px go"
    intro r3 x3 y3
    walk_at "px go"
    have hall : ∀ d ∈ l.map D.str, ∃ x : Str, d = .str x := fun d hd => by obtain ⟨x, _, rfl⟩ := List.mem_map.mp hd; exact ⟨x, rfl⟩
    have hpos : (0 : Int) < ((l.map D.str).length : Nat) := by rw [List.length_map]; omega
    refine pickK (fun d => ∃ x : Str, d = .str x) (Int.emod_nonneg _ (by omega)) (Int.emod_lt_of_pos _ hpos) hall (fun d hd => ?_)
    obtain ⟨other, rfl⟩ := hd
    walk_at "px go"
    intro r4 x4 y4
    walk_at "px go"
    refine pickK (fun d => ∃ x : Str, d = .str x) x4 y4 hall (fun d hd => ?_)
    obtain ⟨nm, rfl⟩ := hd
    have one : ∀ k : D → Prop, (∀ x : Str, k (.str x)) → optK (atI (l.map D.str) r2) k := fun k hk => pickK (fun d => ∃ x : Str, d = .str x) x2 (by rw [List.length_map]; exact y2) hall (fun d hd => by obtain ⟨x, rfl⟩ := hd; exact hk x)
    walk_at "px go"
    try refine ⟨by decide, by decide, by decide, ?_⟩
    intro n n0 n1
    rcases hw with rfl | rfl | rfl | rfl | rfl | rfl
    · walk_at "px go"
      exact .inl (q ["add", nm] n (.inl rfl) n0 n1)
    · walk_at "px go"
      exact .inl (q ["take", nm] n (.inr rfl) n0 n1)
    · walk_at "px go"
      refine one _ fun x => ?_
      walk_at "px go"
      exact .inl (q ["move", x, other] n (.inl rfl) n0 n1)
    · walk_at "px go"
      exact .inl (q ["send", other, nm] n (.inr (.inl rfl)) n0 n1)
    · walk_at "px go"
      exact .inl (q ["fetch", other, nm] n (.inr (.inr rfl)) n0 n1)
    · walk_at "px go"
      refine one _ fun x => ?_
      walk_at "px go"
      exact .inl (q ["pass", x, other, nm] n rfl n0 n1)
/-- an answer, as data -/
def AnsD (a : D) : Prop := (∃ w : Str, a = .tup [.str w]) ∨ (∃ w x : Str, a = .tup [.str w, .str x]) ∨ (∃ (w : Str) (i : Int), a = .tup [.str w, .int i]) ∨ ∃ (w : Str) (i j : Int), a = .tup [.str w, .int i, .int j]
theorem ans_cl {a : D} (h : AnsD a) (n : Nat) : a.cl n = true := by
  rcases h with ⟨w, rfl⟩ | ⟨w, x, rfl⟩ | ⟨w, i, rfl⟩ | ⟨w, i, j, rfl⟩ <;> rfl

/-! ### _law_answer -/
abbrev s__law_answer : Stmt := topS 15
theorem sc__law_answer : FnScope ["_law_pen_here", "_law_deed_here", "_law_word", "_law_n", "_law_short", "_law_full", "_law_less", "_law_more", "_law_some"] ["_law_pen_here", "_law_deed_here"] (defScope s__law_answer) := ⟨rfl, rfl, rfl, by decide +kernel, rfl, by decide +kernel, by decide +kernel⟩
def T__law_answer : SpX := fun ds O Q E => match ds with
  | [.own pk, .tup ds] => ∃ (ws : List Str) (n : Int), O[pk]? = some .pen ∧ ds = ws.map .str ++ [.int n] ∧ deedW ws ∧ 1 ≤ n ∧ n ≤ 1000000000000 ∧ ∀ a, AnsD a → Q a O
  | _ => False
theorem len__law_answer : ∀ ds O Q E, T__law_answer ds O Q E → ds.length = 2 := fun ds O Q E h => by
  match ds, h with
  | [.own pk, .tup ds], _ => rfl
theorem ok__law_answer {P : Program} {w : World} {K : PySem.W.Frag} {mg : Str → Option Value} {base : Heap} {f : Addr} {fd : FuncData} (F : Fun K "_law_answer" "_law_answer" s__law_answer f fd) (C__law_take : Cl P w K mg base "_law_take" 1 ["_law_pen_here", "_law_most"] T__law_take) (C__law_number : Cl P w K mg base "_law_number" 2 ["_law_pen_here", "_law_least", "_law_most"] T__law_number) (m_len : mg "len" = none)   :
    FnX P w K mg base 3 f fd ["_law_pen_here", "_law_deed_here"] T__law_answer := by
  skip
  refine fnx_of F sc__law_answer (len__law_answer) _ (fun cdv A outer s H E hr => by
    have tk : Takes (cxOf (L2.CX P w) P w K mg base ["_law_pen_here", "_law_deed_here", "_law_word", "_law_n", "_law_short", "_law_full", "_law_less", "_law_more", "_law_some"] "_law_answer" (defScope s__law_answer) f cdv A outer s H E) (W0 E) := takes_of rfl rfl rfl rfl
    have po : PassesOwn (model P w) (A.deeper (envOfC "_law_answer" (defScope s__law_answer) s.heap.objs.size f cdv)) (envOfC "_law_answer" (defScope s__law_answer) s.heap.objs.size f cdv) (cxOf (L2.CX P w) P w K mg base ["_law_pen_here", "_law_deed_here", "_law_word", "_law_n", "_law_short", "_law_full", "_law_less", "_law_more", "_law_some"] "_law_answer" (defScope s__law_answer) f cdv A outer s H E).xe := passes_of rfl
    exact (psx_cons (psx_set (i := 2) sc__law_answer.nd rfl (Or.inl rfl) (px_ixA hr.u (xv 1) px_int))
      (psx_cons (psx_set (i := 3) sc__law_answer.nd rfl (Or.inl rfl) (px_ixA hr.u (xv 1) (px_un u_neg px_int)))
      (psx_cons (psx_set (i := 4) sc__law_answer.nd rfl (Or.inl rfl) (px_tup (pax_cons px_str (pax_cons (px_cl C__law_number hr tk (pax_cons (xv 0) (pax_cons px_int (pax_cons (px_op o_sub (xv 3) px_int) pax_nil)))) pax_nil))))
      (psx_cons (psx_set (i := 5) sc__law_answer.nd rfl (Or.inl rfl) (px_tup (pax_cons px_str (pax_cons (px_cl C__law_number hr tk (pax_cons (xv 0) (pax_cons (px_op o_addA (px_op o_sub (px_op o_pow px_int px_int) (xv 3)) px_int) (pax_cons (px_op o_pow px_int px_int) pax_nil)))) pax_nil))))
      (psx_cons (psx_set (i := 6) sc__law_answer.nd rfl (Or.inl rfl) (px_cl C__law_number hr tk (pax_cons (xv 0) (pax_cons px_int (pax_cons (px_op o_sub (px_op o_pow px_int px_int) (xv 3)) pax_nil)))))
      (psx_cons (psx_set (i := 7) sc__law_answer.nd rfl (Or.inl rfl) (px_cl C__law_number hr tk (pax_cons (xv 0) (pax_cons (xv 3) (pax_cons (px_op o_pow px_int px_int) pax_nil)))))
      (psx_cons (psx_if (ptx_cmp (c_eq hr.u) (xv 2) px_str) (psx_cons (psx_ret (px_ixA hr.u (px_lst (pax_cons (px_tup (pax_cons px_str pax_nil)) (pax_cons (px_tup (pax_cons px_str (pax_cons (px_ixA hr.u (xv 1) px_int) pax_nil))) (pax_cons (px_tup (pax_cons px_str (pax_cons (px_ixA hr.u (xv 1) px_int) pax_nil))) pax_nil)))) (px_cl C__law_take hr tk (pax_cons (xv 0) (pax_cons px_int pax_nil)))))
      psx_nil) psx_nil)
      (psx_cons (psx_if (ptx_cmp (c_eq hr.u) (xv 2) px_str) (psx_cons (psx_ret (px_ixA hr.u (px_lst (pax_cons (xv 4) (pax_cons (xv 5) (pax_cons (px_tup (pax_cons px_str (pax_cons (xv 6) (pax_cons (xv 7) pax_nil)))) pax_nil)))) (px_cl C__law_take hr tk (pax_cons (xv 0) (pax_cons px_int pax_nil)))))
      psx_nil) psx_nil)
      (psx_cons (psx_set (i := 8) sc__law_answer.nd rfl (Or.inl rfl) (px_lstO (pax_cons (px_tup (pax_cons px_str (pax_cons (xv 7) pax_nil))) (pax_cons (xv 5) pax_nil))))
      (psx_cons (psx_if (ptx_cmp (c_inA hr.u) (xv 2) (px_tup (pax_cons px_str (pax_cons px_str pax_nil)))) (psx_cons (psx_set (i := 8) sc__law_answer.nd rfl (Or.inl rfl) (px_lstO (pax_cons (px_tup (pax_cons px_str (pax_cons (xv 6) pax_nil))) (pax_cons (xv 4) pax_nil))))
      psx_nil) psx_nil)
      (psx_cons (psx_if (ptx_cmp (c_inA hr.u) (xv 2) (px_tup (pax_cons px_str (pax_cons px_str pax_nil)))) (psx_cons (psx_expr (px_bm PySem.F.plainAttrs_list PySem.F.slot_list_append PySem.F.type_list_append m_append (xv 8) (pax_cons (px_tup (pax_cons px_str (pax_cons (px_ixA hr.u (xv 1) px_int) pax_nil))) pax_nil)))
      psx_nil) psx_nil)
      (psx_cons (psx_ret (px_ixA hr.u (xv 8) (px_cl C__law_take hr tk (pax_cons (xv 0) (pax_cons (px_callB f_lenA (by rfl) m_len (by decide +kernel) (pax_cons (xv 8) pax_nil)) pax_nil)))))
      psx_nil))))))))))))) ?_
  intro ds O Q E h hcl
  match ds, h with
  | [.own pk, .tup ds], h =>
    replace h : ∃ (ws : List Str) (n : Int), O[pk]? = some .pen ∧ ds = ws.map .str ++ [.int n] ∧ deedW ws ∧ 1 ≤ n ∧ n ≤ 1000000000000 ∧ ∀ a, AnsD a → Q a O := h
    obtain ⟨ws, n, hp, rfl, hw, n0, n1, q⟩ := h
    obtain ⟨w, ws', rfl⟩ : ∃ w ws', ws = w :: ws' := by
      match ws, hw with
      | [w, x], _ => exact ⟨w, _, rfl⟩
      | [w, x, y], _ => exact ⟨w, _, rfl⟩
      | [w, x, y, z], _ => exact ⟨w, _, rfl⟩
    have a0 : atI ((w :: ws').map D.str ++ [.int n]) 0 = some (.str w) := atI_0
    have aN : atI ((w :: ws').map D.str ++ [.int n]) (-1) = some (.int n) := by rw [atI_end, List.getLast?_append]; rfl
    walk_at "px go"
    intro s s0 s1
    walk_at "px go"
    repeat (refine And.intro (by first | exact Int.le_refl _ | (show (1000000000000 : Int) ≤ 1000000000000000; omega) | (show (0:Int) ≤ 1000000000000 - n + 1; omega) | (show (1000000000000 - n + 1 : Int) ≤ 1000000000000; omega) | (show (0 : Int) ≤ 1000000000000 - n; omega) | (show (1000000000000 - n : Int) ≤ 1000000000000000; omega) | (show n ≤ (1000000000000 : Int); omega) | (show (0 : Int) ≤ n; omega)) ?_)
    intro f f0 f1
    walk_at "px go"
    repeat (refine And.intro (by first | exact Int.le_refl _ | (show (1000000000000 : Int) ≤ 1000000000000000; omega) | (show (0:Int) ≤ 1000000000000 - n + 1; omega) | (show (1000000000000 - n + 1 : Int) ≤ 1000000000000; omega) | (show (0 : Int) ≤ 1000000000000 - n; omega) | (show (1000000000000 - n : Int) ≤ 1000000000000000; omega) | (show n ≤ (1000000000000 : Int); omega) | (show (0 : Int) ≤ n; omega)) ?_)
    intro le le0 le1
    walk_at "px go"
    repeat (refine And.intro (by first | exact Int.le_refl _ | (show (1000000000000 : Int) ≤ 1000000000000000; omega) | (show (0:Int) ≤ 1000000000000 - n + 1; omega) | (show (1000000000000 - n + 1 : Int) ≤ 1000000000000; omega) | (show (0 : Int) ≤ 1000000000000 - n; omega) | (show (1000000000000 - n : Int) ≤ 1000000000000000; omega) | (show n ≤ (1000000000000 : Int); omega) | (show (0 : Int) ≤ n; omega)) ?_)
    intro mo mo0 mo1
    walk_at "px go"
    match ws', hw, q with
    | [x], hw, q =>
      rcases (show w = "add" ∨ w = "take" from hw) with rfl | rfl
      · walk_at "px go"
        refine ⟨by first | (show CW ((2 : Nat) : Int); unfold CW; decide) | (show CW ((3 : Nat) : Int); unfold CW; decide), ?_⟩
        intro z z0 z1
        walk_at "px go"
        refine pickK AnsD z0 z1 (fun d hd => ?_) (fun d hd => ?_)
        · simp only [List.cons_append, List.nil_append, List.mem_cons, List.not_mem_nil, or_false] at hd
          first
          | (rcases hd with rfl | rfl | rfl <;> first | exact .inl ⟨_, rfl⟩ | exact .inr (.inl ⟨_, _, rfl⟩) | exact .inr (.inr (.inl ⟨_, _, rfl⟩)) | exact .inr (.inr (.inr ⟨_, _, _, rfl⟩)))
          | (rcases hd with rfl | rfl <;> first | exact .inl ⟨_, rfl⟩ | exact .inr (.inl ⟨_, _, rfl⟩) | exact .inr (.inr (.inl ⟨_, _, rfl⟩)) | exact .inr (.inr (.inr ⟨_, _, _, rfl⟩)))
        first
        | exact rt_drop (ans_cl hd _) hcl (q d hd)
        | (rw [List.append_assoc]; exact rt_drop (ans_cl hd _) hcl (q d hd))
      · walk_at "px go"
        refine ⟨by first | (show CW ((2 : Nat) : Int); unfold CW; decide) | (show CW ((3 : Nat) : Int); unfold CW; decide), ?_⟩
        intro z z0 z1
        walk_at "px go"
        refine pickK AnsD z0 z1 (fun d hd => ?_) (fun d hd => ?_)
        · simp only [List.cons_append, List.nil_append, List.mem_cons, List.not_mem_nil, or_false] at hd
          first
          | (rcases hd with rfl | rfl | rfl <;> first | exact .inl ⟨_, rfl⟩ | exact .inr (.inl ⟨_, _, rfl⟩) | exact .inr (.inr (.inl ⟨_, _, rfl⟩)) | exact .inr (.inr (.inr ⟨_, _, _, rfl⟩)))
          | (rcases hd with rfl | rfl <;> first | exact .inl ⟨_, rfl⟩ | exact .inr (.inl ⟨_, _, rfl⟩) | exact .inr (.inr (.inl ⟨_, _, rfl⟩)) | exact .inr (.inr (.inr ⟨_, _, _, rfl⟩)))
        first
        | exact rt_drop (ans_cl hd _) hcl (q d hd)
        | (rw [List.append_assoc]; exact rt_drop (ans_cl hd _) hcl (q d hd))
    | [x, y], hw, q =>
      rcases (show w = "move" ∨ w = "send" ∨ w = "fetch" from hw) with rfl | rfl | rfl
      · walk_at "px go"
        intro z z0 z1
        walk_at "px go"
        refine pickK AnsD z0 z1 (fun d hd => ?_) (fun d hd => ?_)
        · simp only [List.cons_append, List.nil_append, List.mem_cons, List.not_mem_nil, or_false] at hd
          first
          | (rcases hd with rfl | rfl | rfl <;> first | exact .inl ⟨_, rfl⟩ | exact .inr (.inl ⟨_, _, rfl⟩) | exact .inr (.inr (.inl ⟨_, _, rfl⟩)) | exact .inr (.inr (.inr ⟨_, _, _, rfl⟩)))
          | (rcases hd with rfl | rfl <;> first | exact .inl ⟨_, rfl⟩ | exact .inr (.inl ⟨_, _, rfl⟩) | exact .inr (.inr (.inl ⟨_, _, rfl⟩)) | exact .inr (.inr (.inr ⟨_, _, _, rfl⟩)))
        walk_at "px go"
        exact .inl (q d hd)
      · walk_at "px go"
        refine ⟨by first | (show CW ((2 : Nat) : Int); unfold CW; decide) | (show CW ((3 : Nat) : Int); unfold CW; decide), ?_⟩
        intro z z0 z1
        walk_at "px go"
        refine pickK AnsD z0 z1 (fun d hd => ?_) (fun d hd => ?_)
        · simp only [List.cons_append, List.nil_append, List.mem_cons, List.not_mem_nil, or_false] at hd
          first
          | (rcases hd with rfl | rfl | rfl <;> first | exact .inl ⟨_, rfl⟩ | exact .inr (.inl ⟨_, _, rfl⟩) | exact .inr (.inr (.inl ⟨_, _, rfl⟩)) | exact .inr (.inr (.inr ⟨_, _, _, rfl⟩)))
          | (rcases hd with rfl | rfl <;> first | exact .inl ⟨_, rfl⟩ | exact .inr (.inl ⟨_, _, rfl⟩) | exact .inr (.inr (.inl ⟨_, _, rfl⟩)) | exact .inr (.inr (.inr ⟨_, _, _, rfl⟩)))
        first
        | exact rt_drop (ans_cl hd _) hcl (q d hd)
        | (rw [List.append_assoc]; exact rt_drop (ans_cl hd _) hcl (q d hd))
      · walk_at "px go"
        refine ⟨by first | (show CW ((2 : Nat) : Int); unfold CW; decide) | (show CW ((3 : Nat) : Int); unfold CW; decide), ?_⟩
        intro z z0 z1
        walk_at "px go"
        refine pickK AnsD z0 z1 (fun d hd => ?_) (fun d hd => ?_)
        · simp only [List.cons_append, List.nil_append, List.mem_cons, List.not_mem_nil, or_false] at hd
          first
          | (rcases hd with rfl | rfl | rfl <;> first | exact .inl ⟨_, rfl⟩ | exact .inr (.inl ⟨_, _, rfl⟩) | exact .inr (.inr (.inl ⟨_, _, rfl⟩)) | exact .inr (.inr (.inr ⟨_, _, _, rfl⟩)))
          | (rcases hd with rfl | rfl <;> first | exact .inl ⟨_, rfl⟩ | exact .inr (.inl ⟨_, _, rfl⟩) | exact .inr (.inr (.inl ⟨_, _, rfl⟩)) | exact .inr (.inr (.inr ⟨_, _, _, rfl⟩)))
        first
        | exact rt_drop (ans_cl hd _) hcl (q d hd)
        | (rw [List.append_assoc]; exact rt_drop (ans_cl hd _) hcl (q d hd))
    | [x, y, z], hw, q =>
      obtain rfl : w = "pass" := hw
      walk_at "px go"
      intro z z0 z1
      walk_at "px go"
      refine pickK AnsD z0 z1 (fun d hd => ?_) (fun d hd => ?_)
      · simp only [List.cons_append, List.nil_append, List.mem_cons, List.not_mem_nil, or_false] at hd
        first
        | (rcases hd with rfl | rfl | rfl <;> first | exact .inl ⟨_, rfl⟩ | exact .inr (.inl ⟨_, _, rfl⟩) | exact .inr (.inr (.inl ⟨_, _, rfl⟩)) | exact .inr (.inr (.inr ⟨_, _, _, rfl⟩)))
        | (rcases hd with rfl | rfl <;> first | exact .inl ⟨_, rfl⟩ | exact .inr (.inl ⟨_, _, rfl⟩) | exact .inr (.inr (.inl ⟨_, _, rfl⟩)) | exact .inr (.inr (.inr ⟨_, _, _, rfl⟩)))
      walk_at "px go"
      exact .inl (q d hd)
theorem range2 : (List.range (Int.toNat 2)).map (fun i => D.int (i : Nat)) = [.int 0, .int 1] := rfl
def DeedD (d : D) : Prop := ∃ (ws : List Str) (n : Int), d = .tup (ws.map .str ++ [.int n]) ∧ deedW ws ∧ 1 ≤ n ∧ n ≤ 1000000000000
def stOk (st : Sts) : Prop := ∀ q ∈ st, DeedD q.2.2.1 ∧ ∀ t a, q.2.2.2 = some (t, a) → AnsD a
theorem deed_sm {n : Nat} {d : D} (h : DeedD d) : smB (n + 2) d = true := by
  obtain ⟨ws, i, rfl, -⟩ := h
  show (ws.map D.str ++ [D.int i]).all (smB (n + 1)) = true
  rw [List.all_append, List.all_map]
  exact Bool.and_eq_true_iff.mpr ⟨List.all_eq_true.mpr fun _ _ => rfl, rfl⟩
theorem ans_sm {n : Nat} {a : D} (h : AnsD a) : smB (n + 2) a = true := by
  rcases h with ⟨w, rfl⟩ | ⟨w, x, rfl⟩ | ⟨w, i, rfl⟩ | ⟨w, i, j, rfl⟩ <;> rfl
theorem valD_memP {st : Sts} {p : Pr} {e : Ent} (h : valD st p = some e) : ∃ q ∈ st, q.2 = e := by
  unfold valD at h
  obtain ⟨q, hq, rfl⟩ := Option.map_eq_some_iff.mp h
  exact ⟨q, List.mem_of_find?_eq_some hq, rfl⟩
theorem stOk.val {st : Sts} (h : stOk st) {p : Pr} {e : Ent} (hv : valD st p = some e) : DeedD e.2.1 ∧ ∀ t a, e.2.2 = some (t, a) → AnsD a := by
  obtain ⟨q, hq, rfl⟩ := valD_memP hv
  exact h q hq
theorem stOk.put {st : Sts} (h : stOk st) {p : Pr} {e : Ent} (he : DeedD e.2.1 ∧ ∀ t a, e.2.2 = some (t, a) → AnsD a) : stOk (putD st p e) := by
  intro q hq
  unfold putD at hq
  split at hq
  · obtain ⟨r, hr, rfl⟩ := List.mem_map.mp hq
    by_cases c : r.1 = p
    · rw [if_pos c]; exact he
    · rw [if_neg c]; exact h r hr
  · rcases List.mem_append.mp hq with hq | hq
    · exact h q hq
    · rw [List.mem_singleton.mp hq]; exact he
theorem stOk.drop {st : Sts} (h : stOk st) {p : Pr} : stOk (dropD st p) := fun q hq => h q (List.mem_filter.mp hq).1
theorem look_sm {n : Nat} {st : Sts} (h : stOk st) {p : Pr} {life t : Int} : smB (n + 3) (lookD life (valD st p) t) = true := by
  cases hv : valD st p with
  | none => rfl
  | some e =>
    obtain ⟨i, d, o⟩ := e
    obtain ⟨h1, h2⟩ := h.val hv
    have h1 : DeedD d := h1
    cases o with
    | none =>
      show (true && (true && (smB (n + 2) d && true))) = true
      rw [deed_sm h1]; rfl
    | some q =>
      obtain ⟨t0, a⟩ := q
      show smB (n + 3) (if t0 + life ≤ t then _ else _) = true
      split
      · rfl
      · show (true && (true && (smB (n + 2) d && (smB (n + 2) a && true)))) = true
        rw [deed_sm h1, ans_sm (h2 _ _ rfl)]; rfl
theorem lenP {st : Sts} {p : Pr} {e : Ent} : (putD st p e).length ≤ st.length + 1 := by
  unfold putD
  split
  · rw [List.length_map]; omega
  · rw [List.length_append]; exact Nat.le_refl _
theorem keysAt.sets {O : Om} {k kd i : Nat} {life : Int} {st : Sts} {c : Cell} (h : keysAt O k kd life st) (h1 : i ≠ k) (h2 : i ≠ kd) : keysAt (O.set i c) k kd life st := ⟨get_neI h.h h1, get_neI h.d h2⟩
theorem keysAt.set {O : Om} {k kd : Nat} {life : Int} {st st2 : Sts} (h : keysAt O k kd life st) : keysAt (O.set kd (.dT (stP st2))) k kd life st2 := ⟨get_ne h.h h.d (fun z => nomatch z), get_self h.d⟩


/-- what is told of a deed begun, dropped or answered, and what stands then -/
def stepR (st : Sts) (way : Int) (p : Pr) (n t : Int) (d a : D) : D × Sts := match valD st p with
  | some (n0, d0, none) => if way = 0 then (.tup [.tup [.str "refused", .str "busy"], .int n0], st) else if way = 1 then (.non, dropD st p) else (.non, putD st p (n0, d0, some (t, a)))
  | _ => if way = 0 then (.non, putD st p (n, d, none)) else (.tup [.tup [.str "refused", .str "ask"], .non], st)
section
variable {st : Sts} {way n t n0 : Int} {p : Pr} {d a d0 : D}
theorem stepR_b (h : valD st p = some (n0, d0, none)) : stepR st way p n t d a = if way = 0 then (.tup [.tup [.str "refused", .str "busy"], .int n0], st) else if way = 1 then (.non, dropD st p) else (.non, putD st p (n0, d0, some (t, a))) := by
  unfold stepR; rw [h]
theorem stepR_f (h : busyB (valD st p) = false) : stepR st way p n t d a = if way = 0 then (.non, putD st p (n, d, none)) else (.tup [.tup [.str "refused", .str "ask"], .non], st) := by
  unfold stepR
  cases hv : valD st p with
  | none => rfl
  | some e =>
    obtain ⟨n1, d1, o⟩ := e
    cases o with
    | none => rw [hv] at h; cases h
    | some z => rfl
end

theorem get_new2 {O : Om} {c c2 : Cell} : (O ++ [c] ++ [c2])[O.length + 1]? = some c2 := by
  have e : (O ++ [c]).length = O.length + 1 := by simp
  rw [← e]; exact get_new
theorem filterMap_cong {α β : Type} {f g : α → Option β} : ∀ {l : List α}, (∀ x ∈ l, f x = g x) → l.filterMap f = l.filterMap g
  | [], _ => rfl
  | x :: l, h => by
    rw [List.filterMap_cons, List.filterMap_cons, h x (.head _), filterMap_cong (l := l) fun y hy => h y (.tail _ hy)]
/-- the table by its keys, in any order -/
theorem by_keys (g : Pr × Ent → Option D) : ∀ {st : Sts} {ps : List Pr}, (st.map (·.1)).Nodup → ps.Nodup → (∀ q ∈ st, q.1 ∈ ps) → (ps.filterMap fun p => (valD st p).bind fun e => g (p, e)).Perm (st.filterMap g)
  | [], ps, _, _, _ => by
    have e : (ps.filterMap fun p => (valD ([] : Sts) p).bind fun e => g (p, e)) = [] := List.filterMap_eq_nil_iff.mpr fun p _ => rfl
    rw [e]; exact .nil
  | q :: st, ps, nd, pn, sub => by
    obtain ⟨hq, nd⟩ := List.nodup_cons.mp (show (q.1 :: st.map (·.1)).Nodup from nd)
    have hm : q.1 ∈ ps := sub q (.head _)
    have hp := (List.perm_cons_erase hm).filterMap (fun p => (valD (q :: st) p).bind fun e => g (p, e))
    refine hp.trans ?_
    have e1 : (valD (q :: st) q.1).bind (fun e => g (q.1, e)) = g q := by rw [valD_pos rfl]; rfl
    have e2 : ((ps.erase q.1).filterMap fun p => (valD (q :: st) p).bind fun e => g (p, e)) = (ps.erase q.1).filterMap fun p => (valD st p).bind fun e => g (p, e) := filterMap_cong fun p hp => by
      have hne : ¬ q.1 = p := fun z => (pn.not_mem_erase (a := q.1)) (z ▸ hp)
      rw [valD_neg hne]
    have ih := by_keys g nd (pn.erase q.1) (ps := ps.erase q.1) fun x hx => by
      have : x.1 ≠ q.1 := fun z => hq (List.mem_map.mpr ⟨x, hx, z⟩)
      exact (List.mem_erase_of_ne this).mpr (sub x (.tail _ hx))
    rw [List.filterMap_cons, List.filterMap_cons, e1, e2]
    cases g q with
    | none => exact ih
    | some d => exact ih.cons d
structure G42 (ps : List Pr) (st : Sts) : Prop where
  nd : (st.map (·.1)).Nodup
  sub : ∀ q ∈ st, q.1 ∈ ps
  num : (st.map fun q => q.2.1).Nodup
  ok : stOk st
  sok : ∀ p ∈ ps, SOk p.1 ∧ SOk p.2
  pnd : ps.Nodup
theorem deedD_cl {d : D} (h : DeedD d) (n : Nat) : d.cl n = true := by
  obtain ⟨ws, m, rfl, -⟩ := h
  exact cls_all fun d hd => by
    rcases List.mem_append.mp hd with hd | hd
    · obtain ⟨x, _, rfl⟩ := List.mem_map.mp hd; rfl
    · rw [List.mem_singleton.mp hd]; rfl
theorem G42.stc {ps : List Pr} {st : Sts} (h : G42 ps st) : StC st :=
  ⟨fun e he => h.sok _ (h.sub e he), fun e he n => deedD_cl (h.ok e he).1 n, fun e he t a ha n => ans_cl ((h.ok e he).2 t a ha) n⟩
theorem fm_k0 (g : Pr × Ent → Option D) (hg : ∀ q d, g q = some d → k0 d = q.2.1) : ∀ {st : Sts}, (st.map fun q => q.2.1).Nodup → ((st.filterMap g).map k0).Nodup
  | [], _ => .nil
  | q :: st, nd => by
    obtain ⟨h1, h2⟩ := List.nodup_cons.mp (show (q.2.1 :: st.map fun q => q.2.1).Nodup from nd)
    rw [List.filterMap_cons]
    cases hq : g q with
    | none => exact fm_k0 g hg h2
    | some d =>
      refine List.nodup_cons.mpr ⟨fun z => ?_, fm_k0 g hg h2⟩
      obtain ⟨d', hd', e⟩ := List.mem_map.mp z
      obtain ⟨q', hq', e'⟩ := List.mem_filterMap.mp hd'
      refine h1 (List.mem_map.mpr ⟨q', hq', ?_⟩)
      rw [← hg q' d' e', e, hg q d hq]
theorem und_k0 (q : Pr × Ent) (d : D) (h : undE q = some d) : k0 d = q.2.1 := by
  unfold undE at h
  split at h
  · cases h
  · cases h; rfl
theorem kept_k0 {life t : Int} (q : Pr × Ent) (d : D) (h : keptE life t q = some d) : k0 d = q.2.1 := by
  unfold keptE at h
  split at h
  · split at h
    · cases h; rfl
    · cases h
  · cases h
/-- both ways to sort tell the same -/
theorem both_sorted {xs ys es : List D} (hx : ∀ d ∈ ys, ∃ n r, d = .tup (.int n :: r)) (nd : (ys.map k0).Nodup) (hp : xs.Perm ys) (he : es.Perm ys) (hs : es.Pairwise fun a b => k0 a ≤ k0 b) : es = sortF xs := by
  have hx' : ∀ d ∈ xs, ∃ n r, d = .tup (.int n :: r) := fun d hd => hx d (hp.mem_iff.mp hd)
  have nd' : (xs.map k0).Nodup := ((hp.map k0).nodup_iff).mpr nd
  refine sortF_uniq (ks := xs.map fun d => .inl (k0 d)) ?_ (List.pairwise_map.mpr ((List.pairwise_map.mp nd').imp fun h e => h (Sum.inl.inj e))) (he.trans hp.symm) ?_
  · rw [List.map_map]
    refine List.map_congr_left fun d hd => ?_
    obtain ⟨n, r, rfl⟩ := hx' d hd
    rfl
  · refine List.Pairwise.imp_of_mem (fun {a b} ha hb h => ?_) hs
    obtain ⟨n, r, rfl⟩ := hx a (he.mem_iff.mp ha)
    obtain ⟨m, w, rfl⟩ := hx b (he.mem_iff.mp hb)
    have h : n ≤ m := h
    show decide (m < n) = false
    exact decide_eq_false (by omega)
def uF (st : Sts) (p : Pr) : Option D := (valD st p).bind fun e => undE (p, e)
def kF (life t : Int) (st : Sts) (p : Pr) : Option D := (valD st p).bind fun e => keptE life t (p, e)
theorem und_fk {st : Sts} {d : D} (h : d ∈ undL st) : ∃ n r, d = .tup (.int n :: r) := by
  obtain ⟨e, _, _, rfl⟩ := und_one h
  exact ⟨_, _, rfl⟩
theorem kept_fk {life t : Int} {st : Sts} {d : D} (h : d ∈ keptL life t st) : ∃ n r, d = .tup (.int n :: r) := by
  obtain ⟨e, _, _, _, _, _, rfl⟩ := kept_one h
  exact ⟨_, _, rfl⟩
theorem fk_ks {xs ys : List D} (hx : ∀ d ∈ ys, ∃ n r, d = .tup (.int n :: r)) (nd : (ys.map k0).Nodup) (hp : xs.Perm ys) : ∃ (ks : List Key) (b : Bool), xs.map fkD = ks.map some ∧ ks.Nodup ∧ ∀ k ∈ ks, k.isLeft = b := by
  have nd' : (xs.map k0).Nodup := ((hp.map k0).nodup_iff).mpr nd
  refine ⟨xs.map fun d => .inl (k0 d), true, ?_, List.pairwise_map.mpr ((List.pairwise_map.mp nd').imp fun h e => h (Sum.inl.inj e)), fun k hk => ?_⟩
  · rw [List.map_map]
    refine List.map_congr_left fun d hd => ?_
    obtain ⟨n, r, rfl⟩ := hx d (hp.mem_iff.mp hd)
    rfl
  · obtain ⟨d, _, rfl⟩ := List.mem_map.mp hk
    rfl
theorem und_smB {st : Sts} (h : stOk st) {es : List D} (hp : es.Perm (undL st)) : smB 6 (.lst es) = true := by
  show es.all (smB 5) = true
  refine List.all_eq_true.mpr fun d hd => ?_
  obtain ⟨e, he, _, rfl⟩ := und_one (hp.mem_iff.mp hd)
  show (true && (true && (true && (smB 4 e.2.2.1 && true)))) = true
  rw [deed_sm (n := 2) (h e he).1]; rfl
theorem kept_smB' {life t : Int} {st : Sts} (h : stOk st) {es : List D} (hp : es.Perm (keptL life t st)) : smB 6 (.lst es) = true := by
  show es.all (smB 5) = true
  refine List.all_eq_true.mpr fun d hd => ?_
  obtain ⟨e, he, t0, a, h1, _, rfl⟩ := kept_one (hp.mem_iff.mp hd)
  show (true && (true && (true && (true && (smB 4 e.2.2.1 && (smB 4 a && true)))))) = true
  rw [deed_sm (n := 2) (h e he).1, ans_sm (n := 2) ((h e he).2 _ _ h1)]; rfl

theorem cut_le {ds : List D} {i j : Int} (h0 : 0 ≤ i) (h1 : 0 ≤ j) : (Px.cutD ds (some i) (some j)).length ≤ j.toNat - i.toNat := by
  unfold Px.cutD
  rw [sIx_i h0, sIx_i h1, List.length_take, List.length_drop]
  omega
theorem cut_ints {ns : List Int} {i j : Option Int} : ∃ ms : List Int, Px.cutD (ns.map .int) i j = ms.map .int := ⟨_, by unfold Px.cutD; rw [← List.map_drop, ← List.map_take]⟩
theorem four {l : List Str} (h : l.length = 4) : ∃ a b c d, l = [a, b, c, d] := by
  match l, h with
  | [a, b, c, d], _ => exact ⟨a, b, c, d, rfl⟩
theorem three {l : List Str} (h : l.length = 3) : ∃ a b c, l = [a, b, c] := by
  match l, h with
  | [a, b, c], _ => exact ⟨a, b, c, rfl⟩
theorem nm_sok {x : Str} (h : IsNm x) : SOk x := by
  obtain ⟨_, h1, h2⟩ := isNm_iff.mp h
  refine ⟨by rw [sizeLine_eq]; omega, ?_⟩
  unfold PyData.strOk
  rw [Array.all_eq_true]
  intro i hi
  have := h2 x.cps[i] (by simp)
  simp only [decide_eq_true_eq, Bool.and_eq_true, Bool.or_eq_true, Bool.not_eq_true']
  omega
theorem ky_sok {x : Str} (h : IsKy x) : SOk x := by
  obtain ⟨_, h1, h2⟩ := isKy_iff.mp h
  refine ⟨by rw [sizeLine_eq]; omega, ?_⟩
  unfold PyData.strOk
  rw [Array.all_eq_true]
  intro i hi
  have := h2 x.cps[i] (by simp)
  simp only [decide_eq_true_eq, Bool.and_eq_true, Bool.or_eq_true, Bool.not_eq_true']
  omega
theorem G42.put {ps : List Pr} {st : Sts} (h : G42 ps st) {p : Pr} {e : Ent} (hp : p ∈ ps) (he : DeedD e.2.1 ∧ ∀ t a, e.2.2 = some (t, a) → AnsD a) (hn : ∀ q ∈ st, q.1 ≠ p → q.2.1 ≠ e.1) : G42 ps (putD st p e) := by
  refine ⟨?_, ?_, ?_, h.ok.put he, h.sok, h.pnd⟩
  · unfold putD
    split
    · rw [List.map_map]
      have : ((fun x : Pr × Ent => x.1) ∘ fun kv : Pr × Ent => if kv.1 = p then (kv.1, e) else kv) = fun x => x.1 := by
        funext kv; show (if kv.1 = p then (kv.1, e) else kv).1 = kv.1; split <;> rfl
      rw [this]; exact h.nd
    · rename_i w
      rw [List.map_append]
      refine List.nodup_append.mpr ⟨h.nd, (by simp), fun a ha b hb => ?_⟩
      obtain ⟨q, hq, rfl⟩ := List.mem_map.mp ha
      have hb : b = p := by simpa using hb
      subst hb
      exact fun z => w (List.any_eq_true.mpr ⟨q, hq, decide_eq_true z⟩)
  · intro q hq
    unfold putD at hq
    split at hq
    · obtain ⟨r, hr, rfl⟩ := List.mem_map.mp hq
      split
      · exact h.sub r hr
      · exact h.sub r hr
    · rcases List.mem_append.mp hq with hq | hq
      · exact h.sub q hq
      · rw [List.mem_singleton.mp hq]; exact hp
  · unfold putD
    split
    · rw [List.map_map]
      have P := (List.pairwise_map.mp h.nd).and (List.pairwise_map.mp h.num)
      refine List.pairwise_map.mpr (List.Pairwise.imp_of_mem (fun {a b} ha hb z => ?_) P)
      obtain ⟨z1, z2⟩ := z
      show (if a.1 = p then (a.1, e) else a).2.1 ≠ (if b.1 = p then (b.1, e) else b).2.1
      by_cases c1 : a.1 = p <;> by_cases c2 : b.1 = p
      · exact absurd (c1.trans c2.symm) z1
      · rw [if_pos c1, if_neg c2]; exact fun w => hn b hb c2 w.symm
      · rw [if_neg c1, if_pos c2]; exact hn a ha c1
      · rw [if_neg c1, if_neg c2]; exact z2
    · rename_i w
      rw [List.map_append]
      refine List.nodup_append.mpr ⟨h.num, (by simp), fun a ha b hb => ?_⟩
      obtain ⟨q, hq, rfl⟩ := List.mem_map.mp ha
      have hb : b = e.1 := by simpa using hb
      subst hb
      exact hn q hq fun z => w (List.any_eq_true.mpr ⟨q, hq, decide_eq_true z⟩)
theorem G42.drop {ps : List Pr} {st : Sts} (h : G42 ps st) {p : Pr} : G42 ps (dropD st p) :=
  ⟨h.nd.sublist (List.Sublist.map _ List.filter_sublist), fun q hq => h.sub q (List.mem_filter.mp hq).1, h.num.sublist (List.Sublist.map _ List.filter_sublist), h.ok.drop, h.sok, h.pnd⟩
def nmN (start step : Int) (j : Nat) : Int := 1 + (start + step * j) % 999983
theorem cop : ∀ d : Nat, d < 63 → 0 < d → Nat.Coprime 999983 d := by decide +kernel
theorem nmN_ne {start step : Int} (h1 : 1 ≤ step) (h2 : step ≤ 999982) {j k : Nat} (hj : j < k) (hk : k < 63) : nmN start step j ≠ nmN start step k := by
  intro e
  have e : (start + step * j) % 999983 = (start + step * k) % 999983 := by unfold nmN at e; omega
  have e2 := Int.emod_eq_emod_iff_emod_sub_eq_zero.mp e.symm
  have e3 : (999983 : Int) ∣ step * ((k - j : Nat) : Int) := by
    have : step * ((k - j : Nat) : Int) = (start + step * k) - (start + step * j) := by
      rw [Int.ofNat_sub (Nat.le_of_lt hj), Int.mul_sub]; omega
    rw [this]; exact Int.dvd_of_emod_eq_zero e2
  obtain ⟨s, rfl⟩ : ∃ s : Nat, step = s := ⟨step.toNat, by omega⟩
  have e4 : 999983 ∣ s * (k - j) := Int.ofNat_dvd.mp (show ((999983 : Nat) : Int) ∣ ((s * (k - j) : Nat) : Int) from by rw [Int.natCast_mul]; exact e3)
  have e5 := (cop (k - j) (by omega) (by omega)).dvd_of_dvd_mul_right e4
  have := Nat.le_of_dvd (by omega) e5
  omega
structure N42 (start step : Int) (i : Nat) (st : Sts) : Prop where
  h : ∀ q ∈ st, ∃ j : Nat, j < i ∧ q.2.1 = nmN start step j
theorem valD_memK {st : Sts} {p : Pr} {e : Ent} (h : valD st p = some e) : (p, e) ∈ st := by
  unfold valD at h
  obtain ⟨q, hq, rfl⟩ := Option.map_eq_some_iff.mp h
  have h1 := List.find?_some hq
  have h1 : q.1 = p := of_decide_eq_true h1
  subst h1
  exact List.mem_of_find?_eq_some hq
theorem nodup_inj {α β : Type} {f : α → β} : ∀ {l : List α}, (l.map f).Nodup → ∀ {a b : α}, a ∈ l → b ∈ l → f a = f b → a = b
  | [], _, _, _, h, _, _ => nomatch h
  | x :: l, nd, a, b, ha, hb, e => by
    obtain ⟨h1, h2⟩ := List.nodup_cons.mp (show (f x :: l.map f).Nodup from nd)
    rcases List.mem_cons.mp ha with ea | ha'
    · rcases List.mem_cons.mp hb with eb | hb'
      · rw [ea, eb]
      · exact absurd (List.mem_map.mpr ⟨b, hb', by rw [← e, ea]⟩) h1
    · rcases List.mem_cons.mp hb with eb | hb'
      · exact absurd (List.mem_map.mpr ⟨a, ha', by rw [e, eb]⟩) h1
      · exact nodup_inj h2 ha' hb' e
theorem mem_put {st : Sts} {p : Pr} {e : Ent} {q : Pr × Ent} (h : q ∈ putD st p e) : q ∈ st ∨ q.2 = e := by
  unfold putD at h
  split at h
  · obtain ⟨r, hr, rfl⟩ := List.mem_map.mp h
    split
    · exact .inr rfl
    · exact .inl hr
  · rcases List.mem_append.mp h with h | h
    · exact .inl h
    · rw [List.mem_singleton.mp h]; exact .inr rfl
theorem step42 {ps : List Pr} {st : Sts} {start step way t : Int} {i : Nat} {p : Pr} {d a : D} (hg : G42 ps st) (hN : N42 start step i st) (hl : st.length ≤ i) (hp : p ∈ ps) (hd : DeedD d) (ha : AnsD a) (h1 : 1 ≤ step) (h2 : step ≤ 999982) (hi : i < 63) :
    G42 ps (stepR st way p (nmN start step i) t d a).2 ∧ N42 start step (i + 1) (stepR st way p (nmN start step i) t d a).2 ∧ (stepR st way p (nmN start step i) t d a).2.length ≤ i + 1 ∧ smB 6 (stepR st way p (nmN start step i) t d a).1 = true := by
  have up : N42 start step (i + 1) st := ⟨fun q hq => by obtain ⟨j, hj, e⟩ := hN.h q hq; exact ⟨j, by omega, e⟩⟩
  cases hb : busyB (valD st p) with
  | true =>
    obtain ⟨n0, d0, hv⟩ := busy_some hb
    have hm := valD_memK hv
    rw [stepR_b hv]
    split
    · exact ⟨hg, up, by show st.length ≤ i + 1; omega, rfl⟩
    · split
      · exact ⟨hg.drop, ⟨fun q hq => up.h q (List.mem_filter.mp hq).1⟩, Nat.le_trans (List.length_filter_le _ _) (by omega), rfl⟩
      · refine ⟨hg.put hp ⟨(hg.ok.val hv).1, fun t' a' e => by cases e; exact ha⟩ fun q hq hne e => ?_, ⟨fun q hq => ?_⟩, Nat.le_trans lenP (by omega), rfl⟩
        · have := nodup_inj hg.num hq hm e
          rw [this] at hne
          exact hne rfl
        · rcases mem_put hq with hq | hq
          · exact up.h q hq
          · rw [hq]
            exact up.h _ hm
  | false =>
    rw [stepR_f hb]
    split
    · refine ⟨hg.put hp ⟨hd, fun t' a' e => by cases e⟩ fun q hq _ e => ?_, ⟨fun q hq => ?_⟩, Nat.le_trans lenP (by omega), rfl⟩
      · obtain ⟨j, hj, e'⟩ := hN.h q hq
        exact nmN_ne h1 h2 hj hi (e'.symm.trans e)
      · rcases mem_put hq with hq | hq
        · exact up.h q hq
        · rw [hq]
          exact ⟨i, by omega, rfl⟩
    · exact ⟨hg, up, by show st.length ≤ i + 1; omega, rfl⟩


/-! ### _law_told_right -/
abbrev s__law_told_right : Stmt := topS 17
theorem sc__law_told_right : FnScope ["_law_keys_here", "_law_stands", "_law_life", "_law_turn", "_law_kept", "_law_under", "_law_pair", "_law_entry", "_law_word", "_law_number_here", "_law_when", "_law_deed_here", "_law_answer_here", "_law_again", "_law_found", "_law_others"] ["_law_keys_here", "_law_stands", "_law_life", "_law_turn"] (defScope s__law_told_right) := ⟨rfl, rfl, rfl, by decide +kernel, rfl, by decide +kernel, by decide +kernel⟩
def T__law_told_right : SpX := fun ds O Q E => match ds with
  | [.own k, .own kd, .int life, .int t] => ∃ (k2 : Nat) (st : Sts) (ps : List Pr) (kt ku : Nat), keysAt O k k2 life st ∧ O[kd]? = some (.dT (stP st)) ∧ st.length ≤ 1000 ∧ G42 ps st ∧ O[kt]? = some (Cell.tab "Keys.kept") ∧ O[ku]? = some (Cell.tab "Keys.under") ∧ Q (.bl true) O
  | _ => False
theorem len__law_told_right : ∀ ds O Q E, T__law_told_right ds O Q E → ds.length = 4 := fun ds O Q E h => by
  match ds, h with
  | [.own k, .own kd, .int life, .int t], _ => rfl
theorem ok__law_told_right {P : Program} {w : World} {K : PySem.W.Frag} {mg : Str → Option Value} {base : Heap} {f : Addr} {fd : FuncData} (F : Fun K "_law_told_right" "_law_told_right" s__law_told_right f fd) (C__law_same : Cl P w K mg base "_law_same" 6 ["_law_found", "_law_due"] (T__law_same 5)) (m_sorted : mg "sorted" = none) (m_range : mg "range" = none)   (CF_Keys : CF K 23) (MC_Keys_under_0 : MC P w K mg base 23 "under" 1 ["self"] [] T_Keys_under) (MC_Keys_kept_0 : MC P w K mg base 23 "kept" 1 ["self", "turn"] [] T_Keys_kept) :
    FnX P w K mg base 7 f fd ["_law_keys_here", "_law_stands", "_law_life", "_law_turn"] T__law_told_right := by
  skip
  refine fnx_of F sc__law_told_right (len__law_told_right) _ (fun cdv A outer s H E hr => by
    have tk : Takes (cxOf (L2.CX P w) P w K mg base ["_law_keys_here", "_law_stands", "_law_life", "_law_turn", "_law_kept", "_law_under", "_law_pair", "_law_entry", "_law_word", "_law_number_here", "_law_when", "_law_deed_here", "_law_answer_here", "_law_again", "_law_found", "_law_others"] "_law_told_right" (defScope s__law_told_right) f cdv A outer s H E) (W0 E) := takes_of rfl rfl rfl rfl
    have po : PassesOwn (model P w) (A.deeper (envOfC "_law_told_right" (defScope s__law_told_right) s.heap.objs.size f cdv)) (envOfC "_law_told_right" (defScope s__law_told_right) s.heap.objs.size f cdv) (cxOf (L2.CX P w) P w K mg base ["_law_keys_here", "_law_stands", "_law_life", "_law_turn", "_law_kept", "_law_under", "_law_pair", "_law_entry", "_law_word", "_law_number_here", "_law_when", "_law_deed_here", "_law_answer_here", "_law_again", "_law_found", "_law_others"] "_law_told_right" (defScope s__law_told_right) f cdv A outer s H E).xe := passes_of rfl
    exact (psx_cons (psx_set (i := 4) sc__law_told_right.nd rfl (Or.inl rfl) (px_lstO pax_nil))
      (psx_cons (psx_set (i := 5) sc__law_told_right.nd rfl (Or.inl rfl) (px_lstO pax_nil))
      (psx_cons (psx_lock (psx_for po rfl (pix_itemsT (xv 1)) (pgx_seq (n := 2) rfl (pgsx_cons (i := 6) sc__law_told_right.nd rfl (Or.inl rfl) (pgsx_cons (i := 7) sc__law_told_right.nd rfl (Or.inl rfl) pgsx_nil))) (psx_cons (psx_asg (xv 7) (pgx_seq (n := 5) rfl (pgsx_cons (i := 8) sc__law_told_right.nd rfl (Or.inl rfl) (pgsx_cons (i := 9) sc__law_told_right.nd rfl (Or.inl rfl) (pgsx_cons (i := 10) sc__law_told_right.nd rfl (Or.inl rfl) (pgsx_cons (i := 11) sc__law_told_right.nd rfl (Or.inl rfl) (pgsx_cons (i := 12) sc__law_told_right.nd rfl (Or.inl rfl) pgsx_nil)))))))
      (psx_cons (psx_if (ptx_cmp (c_eq hr.u) (xv 8) px_str) (psx_cons (psx_expr (px_bm PySem.F.plainAttrs_list PySem.F.slot_list_append PySem.F.type_list_append m_append (xv 5) (pax_cons (px_op o_addA (px_op o_addA (px_tup (pax_cons (xv 9) pax_nil)) (xv 6)) (px_tup (pax_cons (xv 11) pax_nil))) pax_nil)))
      psx_nil) (psx_cons (psx_if (ptx_cmp c_gt (px_op o_addA (xv 10) (xv 2)) (xv 3)) (psx_cons (psx_expr (px_bm PySem.F.plainAttrs_list PySem.F.slot_list_append PySem.F.type_list_append m_append (xv 4) (pax_cons (px_op o_addA (px_op o_addA (px_tup (pax_cons (xv 9) (pax_cons (xv 10) pax_nil))) (xv 6)) (px_tup (pax_cons (xv 11) (pax_cons (xv 12) pax_nil)))) pax_nil)))
      psx_nil) psx_nil)
      psx_nil))
      psx_nil))))
      (psx_cons (psx_for po rfl (pix_rng1 (by rfl) m_range (pax_cons px_int pax_nil)) (pgx_name (i := 13) sc__law_told_right.nd rfl (Or.inl rfl)) (psx_cons (psx_set (i := 14) sc__law_told_right.nd rfl (Or.inl rfl) (px_meth MC_Keys_kept_0 CF_Keys hr tk (xv 0) (pax_cons (xv 3) pax_nil)))
      (psx_cons (psx_set (i := 15) sc__law_told_right.nd rfl (Or.inl rfl) (px_meth0 MC_Keys_under_0 CF_Keys hr tk (xv 0)))
      (psx_cons (psx_if (PWX.pt (pwx_or (ptx_not (ptx_tru (px_cl C__law_same hr tk (pax_cons (xv 14) (pax_cons (px_callB f_sortT (by rfl) m_sorted (by decide +kernel) (pax_cons (xv 4) pax_nil)) pax_nil))))) (pwx_or1 (ptx_not (ptx_tru (px_cl C__law_same hr tk (pax_cons (xv 15) (pax_cons (px_callB f_sortT (by rfl) m_sorted (by decide +kernel) (pax_cons (xv 5) pax_nil)) pax_nil)))))))) (psx_cons (psx_ret px_bl)
      psx_nil) psx_nil)
      (psx_cons (psx_expr (px_bm PySem.F.plainAttrs_list PySem.F.slot_list_append PySem.F.type_list_append m_append (xv 14) (pax_cons (px_tup (pax_cons px_int pax_nil)) pax_nil)))
      (psx_cons (psx_expr (px_bm0 PySem.F.plainAttrs_list PySem.F.slot_list_clear PySem.F.type_list_clear m_clear (xv 15)))
      psx_nil))))))
      (psx_cons (psx_ret px_bl)
      psx_nil)))))) ?_
  intro ds O Q E h hcl
  match ds, h with
  | [.own k, .own kd, .int life, .int t], h =>
    replace h : ∃ (k2 : Nat) (st : Sts) (ps : List Pr) (kt ku : Nat), keysAt O k k2 life st ∧ O[kd]? = some (.dT (stP st)) ∧ st.length ≤ 1000 ∧ G42 ps st ∧ O[kt]? = some (Cell.tab "Keys.kept") ∧ O[ku]? = some (Cell.tab "Keys.under") ∧ Q (.bl true) O := h
    obtain ⟨k2, st, ps, kt, ku, hk, hd, hl, hg, ht, hu, q⟩ := h
    obtain ⟨k1, k2'⟩ := id hk
    have g1 : (O ++ [Cell.lst []] ++ [Cell.lst []])[kd]? = some (.dT (stP st)) := get_app (get_app hd)
    have kdl : kd < O.length := (List.getElem?_eq_some_iff.mp hd).1
    walk_at "px go"
    refine ⟨kd, optK.mk g1 ?_⟩
    intro oo vs
    have ol : (O.set kd (Cell.fzT oo vs (stP st))).length = O.length := List.length_set
    have eO : ∀ a b, (O ++ [Cell.lst a] ++ [Cell.lst b]).set kd (Cell.fzT oo vs (stP st)) = O.set kd (Cell.fzT oo vs (stP st)) ++ [Cell.lst a] ++ [Cell.lst b] := fun a b => by
      rw [List.set_append_left _ _ (by rw [List.length_append]; exact Nat.lt_add_right _ kdl), List.set_append_left _ _ kdl]
    have f1 : ∀ a b, (O.set kd (Cell.fzT oo vs (stP st)) ++ [Cell.lst a] ++ [Cell.lst b])[kd]? = some (Cell.fzT oo vs (stP st)) := fun _ _ => get_app (get_app (List.getElem?_set_self kdl))
    have f3 : ∀ a b, (O.set kd (Cell.fzT oo vs (stP st)) ++ [Cell.lst a] ++ [Cell.lst b])[O.length]? = some (.lst a) := fun _ _ => get_app (by rw [← ol]; exact get_new)
    have f5 : ∀ a b, (O.set kd (Cell.fzT oo vs (stP st)) ++ [Cell.lst a] ++ [Cell.lst b])[O.length + 1]? = some (.lst b) := fun _ _ => (by rw [← ol]; exact get_new2)
    have f4 : ∀ a b, ((O.set kd (Cell.fzT oo vs (stP st)) ++ [Cell.lst a] ++ [Cell.lst b]).set kd (.dT (stP st))) = O ++ [Cell.lst a] ++ [Cell.lst b] := fun a b => by
      rw [List.set_append_left _ _ (by rw [List.length_append, ol]; exact Nat.lt_add_right _ kdl), List.set_append_left _ _ (by rw [ol]; exact kdl), List.set_set, set_same hd]
    have ol1 : (O ++ [Cell.lst []]).length = O.length + 1 := by simp
    rw [eO]
    have e1 := f1 [] []
    walk_at "px go"
    refine ⟨fun p hp y hy => ?_, fun p hp => ?_, by rw [st_len]; omega, ?_⟩
    · obtain ⟨e, he, rfl⟩ := List.mem_map.mp hp
      have z := hg.stc.sok e he
      rcases List.mem_cons.mp hy with rfl | hy
      · exact z.1
      · rcases List.mem_cons.mp hy with rfl | hy
        · exact z.2
        · cases hy
    · obtain ⟨e, he, rfl⟩ := List.mem_map.mp hp
      show 2 ≤ 1000
      decide
    clear eO e1 g1
    generalize (Cell.fzT oo vs (stP st)) = z at f1 f3 f4 f5 ol ⊢
    generalize O.set kd z = O1 at f1 f3 f4 f5 ol ⊢
    refine forGo_inv (fun rest G' O' => ∃ pre post g6 g7 g8 g9 g10 g11 g12 g13 g14 g15, rest = itemsD (stP post) ∧ O' = O1 ++ [Cell.lst (keptL life t pre)] ++ [Cell.lst (undL pre)] ∧ st = pre ++ post ∧ G' = [some (.own k), some (.own kd), some (.int life), some (.int t), some (.own O.length), some (.own (O.length + 1)), g6, g7, g8, g9, g10, g11, g12, g13, g14, g15]) ⟨[], st, _, _, _, _, _, _, _, _, _, _, rfl, rfl, rfl, (by rw [← ol1]; rfl)⟩ (by rintro rest G' O' ⟨pre, post, g6, g7, g8, g9, g10, g11, g12, g13, g14, g15, -, rfl, -, -⟩; exact f1 _ _) ?_ ?_
    · rintro d rest G' O' ⟨pre, post, g6, g7, g8, g9, g10, g11, g12, g13, g14, g15, er, rfl, es, rfl⟩ nx hnx
      cases post with
      | nil => cases er
      | cons e post =>
        cases er
        obtain ⟨⟨x, y⟩, n, dd, o⟩ := e
        have e1 := f1 (keptL life t pre) (undL pre)
        have e3 := f3 (keptL life t pre) (undL pre)
        have e5 := f5 (keptL life t pre) (undL pre)
        have es2 : st = (pre ++ [((x, y), n, dd, o)]) ++ post := by rw [es, List.append_assoc]; rfl
        have hlp : pre.length ≤ 1000 := by
          have h2 := congrArg List.length es
          rw [List.length_append] at h2
          omega
        have lk : (keptL life t pre).length < 1000000 := by
          have h1 : (keptL life t pre).length ≤ pre.length := List.length_filterMap_le _ _
          omega
        have lu : (undL pre).length < 1000000 := by
          have h1 : (undL pre).length ≤ pre.length := List.length_filterMap_le _ _
          omega
        cases o with
        | none =>
          have ek : keptL life t (pre ++ [((x, y), n, dd, none)]) = keptL life t pre := by
            unfold keptL
            rw [List.filterMap_append]; exact List.append_nil _
          have eu : undL (pre ++ [((x, y), n, dd, none)]) = undL pre ++ [.tup [.int n, .str x, .str y, dd]] := by
            unfold undL
            rw [List.filterMap_append]; rfl
          rw [show ((fun p : List Key × D => D.tup [D.tup (List.map keyDD p.fst), p.snd]) ((fun p : Pr × Ent => (kyP p.fst, entD p.snd)) ((x, y), n, dd, none))) = .tup [.tup [.str x, .str y], .tup [.str "busy", .int n, .non, dd, .non]] from rfl]
          walk_at "px go"
          refine hnx _ _ ⟨pre ++ [((x, y), n, dd, none)], post, _, _, _, _, _, _, _, _, _, _, rfl, ?_, es2, rfl⟩
          rw [ek, eu]
          exact set_fin (by rw [List.length_append, ol]; rfl)
        | some p =>
          obtain ⟨t0, a⟩ := p
          have eu : undL (pre ++ [((x, y), n, dd, some (t0, a))]) = undL pre := by
            unfold undL
            rw [List.filterMap_append]
            exact List.append_nil _
          rw [show ((fun p : List Key × D => D.tup [D.tup (List.map keyDD p.fst), p.snd]) ((fun p : Pr × Ent => (kyP p.fst, entD p.snd)) ((x, y), n, dd, some (t0, a)))) = .tup [.tup [.str x, .str y], .tup [.str "kept", .int n, .int t0, dd, a]] from rfl]
          walk_at "px go"
          by_cases w : t < t0 + life
          · have ek : keptL life t (pre ++ [((x, y), n, dd, some (t0, a))]) = keptL life t pre ++ [.tup [.int n, .int t0, .str x, .str y, dd, a]] := by
              unfold keptL
              rw [List.filterMap_append, List.filterMap_cons_some (f := keptE life t) (a := ((x, y), n, dd, some (t0, a))) (b := D.tup [.int n, .int t0, .str x, .str y, dd, a]) (if_pos w)]; rfl
            rw [show (fun i j : Int => decide (j < i)) (t0 + life) t = true from decide_eq_true (by omega)]
            walk_at "px go"
            refine hnx _ _ ⟨pre ++ [((x, y), n, dd, some (t0, a))], post, _, _, _, _, _, _, _, _, _, _, rfl, ?_, es2, rfl⟩
            rw [ek, eu, ← ol, set_midK]
            rfl
          · have ek : keptL life t (pre ++ [((x, y), n, dd, some (t0, a))]) = keptL life t pre := by
              unfold keptL
              rw [List.filterMap_append, List.filterMap_cons_none (f := keptE life t) (a := ((x, y), n, dd, some (t0, a))) (if_neg w)]; exact List.append_nil _
            rw [show (fun i j : Int => decide (j < i)) (t0 + life) t = false from decide_eq_false (by omega)]
            walk_at "px go"
            exact hnx _ _ ⟨pre ++ [((x, y), n, dd, some (t0, a))], post, _, _, _, _, _, _, _, _, _, _, rfl, (by rw [ek, eu]), es2, rfl⟩
    · rintro G' O' ⟨pre, post, g6, g7, g8, g9, g10, g11, g12, g13, g14, g15, er, rfl, es, rfl⟩
      cases post with
      | cons e post => cases er
      | nil =>
        rw [List.append_nil] at es
        subst es
        have e1 := f1 (keptL life t st) (undL st)
        refine ⟨e1, ?_⟩
        rw [f4]
        have lk : (keptL life t st).length ≤ 1000 := Nat.le_trans (List.length_filterMap_le _ _) hl
        have lu : (undL st).length ≤ 1000 := Nat.le_trans (List.length_filterMap_le _ _) hl
        have hstc := hg.stc
        have nU := fm_k0 undE und_k0 hg.num
        have nK := fm_k0 (keptE life t) kept_k0 hg.num
        have FZ : ∀ Z : Om, keysAt (O ++ [Cell.lst (keptL life t st)] ++ [Cell.lst (undL st)] ++ Z) k k2 life st ∧ (O ++ [Cell.lst (keptL life t st)] ++ [Cell.lst (undL st)] ++ Z)[O.length]? = some (.lst (keptL life t st)) ∧ (O ++ [Cell.lst (keptL life t st)] ++ [Cell.lst (undL st)] ++ Z)[O.length + 1]? = some (.lst (undL st)) ∧ (O ++ [Cell.lst (keptL life t st)] ++ [Cell.lst (undL st)] ++ Z)[kt]? = some (Cell.tab "Keys.kept") ∧ (O ++ [Cell.lst (keptL life t st)] ++ [Cell.lst (undL st)] ++ Z)[ku]? = some (Cell.tab "Keys.under") := fun Z =>
          ⟨⟨get_app (get_app (get_app hk.h)), get_app (get_app (get_app hk.d))⟩, get_app (get_app get_new), get_app get_new2, get_app (get_app (get_app ht)), get_app (get_app (get_app hu))⟩
        clear f1 f3 f4 f5 ol ol1 e1
        have e2 : O ++ [Cell.lst (keptL life t st)] ++ [Cell.lst (undL st)] = O ++ [Cell.lst (keptL life t st)] ++ [Cell.lst (undL st)] ++ [] := (List.append_nil _).symm
        rw [e2]
        walk_at "px go"
        refine .mk ?_
        rw [range2]
        obtain ⟨Oc, hOc⟩ : ∃ Oc : Om, Oc = O ++ [Cell.lst (keptL life t st)] ++ [Cell.lst (undL st)] ++ [] := ⟨_, rfl⟩
        obtain ⟨fk, fK, fU, ft, fu⟩ := FZ []
        rw [← hOc] at fk fK fU ft fu ⊢
        have fh := fk.h
        have hpre : ∃ G, Oc = O ++ G := ⟨_, by rw [hOc, List.append_assoc, List.append_assoc]⟩
        clear hOc
        walk_at "px go"
        refine ⟨k2, life, st, kt, fk, hl, hstc, ft, fun ek hpk hsk => ?_⟩
        have fk1 : keysAt (Oc ++ [Cell.lst (keptL life t st)] ++ [Cell.lst ek]) k k2 life st := ⟨get_app (get_app fk.h), get_app (get_app fk.d)⟩
        have fh1 := fk1.h
        have sk := kept_smB' hg.ok hpk
        have bk := both_sorted (fun d hd => kept_fk hd) nK (List.Perm.refl _) hpk hsk
        walk_at "px go"
        refine ⟨k2, life, st, ku, fk1, hl, hstc, get_app (get_app fu), fun eu hpu hsu => ?_⟩
        have su := und_smB hg.ok hpu
        have bu := both_sorted (fun d hd => und_fk hd) nU (List.Perm.refl _) hpu hsu
        have gK : (Oc ++ [Cell.lst (keptL life t st)] ++ [Cell.lst ek] ++ [Cell.lst (undL st)] ++ [Cell.lst eu])[Oc.length + 1]? = some (.lst ek) := get_app (get_app get_new2)
        have gU : (Oc ++ [Cell.lst (keptL life t st)] ++ [Cell.lst ek] ++ [Cell.lst (undL st)] ++ [Cell.lst eu])[(Oc ++ [Cell.lst (keptL life t st)] ++ [Cell.lst ek]).length + 1]? = some (.lst eu) := get_new2
        have gk0 : (Oc ++ [Cell.lst (keptL life t st)] ++ [Cell.lst ek] ++ [Cell.lst (undL st)] ++ [Cell.lst eu])[O.length]? = some (.lst (keptL life t st)) := get_app (get_app (get_app (get_app fK)))
        have gu0 : (Oc ++ [Cell.lst (keptL life t st)] ++ [Cell.lst ek] ++ [Cell.lst (undL st)] ++ [Cell.lst eu])[O.length + 1]? = some (.lst (undL st)) := get_app (get_app (get_app (get_app fU)))
        have nku : Oc.length + 1 ≠ (Oc ++ [Cell.lst (keptL life t st)] ++ [Cell.lst ek]).length + 1 := by simp
        have lek : ek.length ≤ 1000 := by rw [hpk.length_eq]; exact lk
        walk_at "px go"
        refine ⟨fk_ks (fun d hd => kept_fk hd) nK (List.Perm.refl _), ?_⟩
        rw [← bk]
        walk_at "px go"
        refine ⟨.lst ek, sm_own gK sk, sm_refl sk, ?_⟩
        walk_at "px go"
        refine ⟨fk_ks (fun d hd => und_fk hd) nU (List.Perm.refl _), ?_⟩
        rw [← bu]
        walk_at "px go"
        refine ⟨.lst eu, sm_own gU su, sm_refl su, ?_⟩
        walk_at "px go"
        have lO : O.length + 1 < Oc.length := (List.getElem?_eq_some_iff.mp fU).1
        have lku : (Oc ++ [Cell.lst (keptL life t st)] ++ [Cell.lst ek]).length = Oc.length + 2 := by simp
        have gU2 : ((Oc ++ [Cell.lst (keptL life t st)] ++ [Cell.lst ek] ++ [Cell.lst (undL st)] ++ [Cell.lst eu]).set (Oc.length + 1) (Cell.lst (ek ++ [D.tup [D.int 0]])))[(Oc ++ [Cell.lst (keptL life t st)] ++ [Cell.lst ek]).length + 1]? = some (.lst eu) := get_neI gU nku
        walk_at "px go"
        have NX : ∃ Od : Om, Od = ((Oc ++ [Cell.lst (keptL life t st)] ++ [Cell.lst ek] ++ [Cell.lst (undL st)] ++ [Cell.lst eu]).set (Oc.length + 1) (Cell.lst (ek ++ [D.tup [D.int 0]]))).set ((Oc ++ [Cell.lst (keptL life t st)] ++ [Cell.lst ek]).length + 1) (.lst []) ∧ keysAt Od k k2 life st ∧ Od[O.length]? = some (.lst (keptL life t st)) ∧ Od[O.length + 1]? = some (.lst (undL st)) ∧ Od[kt]? = some (Cell.tab "Keys.kept") ∧ Od[ku]? = some (Cell.tab "Keys.under") ∧ ∃ G, Od = O ++ G := by
          have l1 : k < Oc.length := (List.getElem?_eq_some_iff.mp fk.h).1
          have l2 : k2 < Oc.length := (List.getElem?_eq_some_iff.mp fk.d).1
          have l3 : kt < Oc.length := (List.getElem?_eq_some_iff.mp ft).1
          have l4 : ku < Oc.length := (List.getElem?_eq_some_iff.mp fu).1
          obtain ⟨G, hG⟩ := hpre
          refine ⟨_, rfl, ⟨?_, ?_⟩, ?_, ?_, ?_, ?_, ?_⟩
          · exact get_neI (get_neI (get_app (get_app (get_app (get_app fk.h)))) (by omega)) (by rw [lku]; omega)
          · exact get_neI (get_neI (get_app (get_app (get_app (get_app fk.d)))) (by omega)) (by rw [lku]; omega)
          · exact get_neI (get_neI gk0 (by omega)) (by rw [lku]; omega)
          · exact get_neI (get_neI gu0 (by omega)) (by rw [lku]; omega)
          · exact get_neI (get_neI (get_app (get_app (get_app (get_app ft)))) (by omega)) (by rw [lku]; omega)
          · exact get_neI (get_neI (get_app (get_app (get_app (get_app fu)))) (by omega)) (by rw [lku]; omega)
          · rw [lku]
            have hl : O.length ≤ Oc.length := by omega
            generalize Oc.length = m at hl
            rw [hG, List.append_assoc O, List.append_assoc O, List.append_assoc O, List.append_assoc O, List.set_append_right _ _ (by omega), List.set_append_right _ _ (by omega)]
            exact ⟨_, rfl⟩
        obtain ⟨Oc, hOc, fk, fK, fU, ft, fu, hpre⟩ := NX
        rw [← hOc]
        clear hOc
        have fh := fk.h
        walk_at "px go"
        refine ⟨k2, life, st, kt, fk, hl, hstc, ft, fun ek hpk hsk => ?_⟩
        have fk1 : keysAt (Oc ++ [Cell.lst (keptL life t st)] ++ [Cell.lst ek]) k k2 life st := ⟨get_app (get_app fk.h), get_app (get_app fk.d)⟩
        have fh1 := fk1.h
        have sk := kept_smB' hg.ok hpk
        have bk := both_sorted (fun d hd => kept_fk hd) nK (List.Perm.refl _) hpk hsk
        walk_at "px go"
        refine ⟨k2, life, st, ku, fk1, hl, hstc, get_app (get_app fu), fun eu hpu hsu => ?_⟩
        have su := und_smB hg.ok hpu
        have bu := both_sorted (fun d hd => und_fk hd) nU (List.Perm.refl _) hpu hsu
        have gK : (Oc ++ [Cell.lst (keptL life t st)] ++ [Cell.lst ek] ++ [Cell.lst (undL st)] ++ [Cell.lst eu])[Oc.length + 1]? = some (.lst ek) := get_app (get_app get_new2)
        have gU : (Oc ++ [Cell.lst (keptL life t st)] ++ [Cell.lst ek] ++ [Cell.lst (undL st)] ++ [Cell.lst eu])[(Oc ++ [Cell.lst (keptL life t st)] ++ [Cell.lst ek]).length + 1]? = some (.lst eu) := get_new2
        have gk0 : (Oc ++ [Cell.lst (keptL life t st)] ++ [Cell.lst ek] ++ [Cell.lst (undL st)] ++ [Cell.lst eu])[O.length]? = some (.lst (keptL life t st)) := get_app (get_app (get_app (get_app fK)))
        have gu0 : (Oc ++ [Cell.lst (keptL life t st)] ++ [Cell.lst ek] ++ [Cell.lst (undL st)] ++ [Cell.lst eu])[O.length + 1]? = some (.lst (undL st)) := get_app (get_app (get_app (get_app fU)))
        have nku : Oc.length + 1 ≠ (Oc ++ [Cell.lst (keptL life t st)] ++ [Cell.lst ek]).length + 1 := by simp
        have lek : ek.length ≤ 1000 := by rw [hpk.length_eq]; exact lk
        walk_at "px go"
        refine ⟨fk_ks (fun d hd => kept_fk hd) nK (List.Perm.refl _), ?_⟩
        rw [← bk]
        walk_at "px go"
        refine ⟨.lst ek, sm_own gK sk, sm_refl sk, ?_⟩
        walk_at "px go"
        refine ⟨fk_ks (fun d hd => und_fk hd) nU (List.Perm.refl _), ?_⟩
        rw [← bu]
        walk_at "px go"
        refine ⟨.lst eu, sm_own gU su, sm_refl su, ?_⟩
        walk_at "px go"
        have lO : O.length + 1 < Oc.length := (List.getElem?_eq_some_iff.mp fU).1
        have lku : (Oc ++ [Cell.lst (keptL life t st)] ++ [Cell.lst ek]).length = Oc.length + 2 := by simp
        have gU2 : ((Oc ++ [Cell.lst (keptL life t st)] ++ [Cell.lst ek] ++ [Cell.lst (undL st)] ++ [Cell.lst eu]).set (Oc.length + 1) (Cell.lst (ek ++ [D.tup [D.int 0]])))[(Oc ++ [Cell.lst (keptL life t st)] ++ [Cell.lst ek]).length + 1]? = some (.lst eu) := get_neI gU nku
        walk_at "px go"
        have NX : ∃ Od : Om, Od = ((Oc ++ [Cell.lst (keptL life t st)] ++ [Cell.lst ek] ++ [Cell.lst (undL st)] ++ [Cell.lst eu]).set (Oc.length + 1) (Cell.lst (ek ++ [D.tup [D.int 0]]))).set ((Oc ++ [Cell.lst (keptL life t st)] ++ [Cell.lst ek]).length + 1) (.lst []) ∧ keysAt Od k k2 life st ∧ Od[O.length]? = some (.lst (keptL life t st)) ∧ Od[O.length + 1]? = some (.lst (undL st)) ∧ Od[kt]? = some (Cell.tab "Keys.kept") ∧ Od[ku]? = some (Cell.tab "Keys.under") ∧ ∃ G, Od = O ++ G := by
          have l1 : k < Oc.length := (List.getElem?_eq_some_iff.mp fk.h).1
          have l2 : k2 < Oc.length := (List.getElem?_eq_some_iff.mp fk.d).1
          have l3 : kt < Oc.length := (List.getElem?_eq_some_iff.mp ft).1
          have l4 : ku < Oc.length := (List.getElem?_eq_some_iff.mp fu).1
          obtain ⟨G, hG⟩ := hpre
          refine ⟨_, rfl, ⟨?_, ?_⟩, ?_, ?_, ?_, ?_, ?_⟩
          · exact get_neI (get_neI (get_app (get_app (get_app (get_app fk.h)))) (by omega)) (by rw [lku]; omega)
          · exact get_neI (get_neI (get_app (get_app (get_app (get_app fk.d)))) (by omega)) (by rw [lku]; omega)
          · exact get_neI (get_neI gk0 (by omega)) (by rw [lku]; omega)
          · exact get_neI (get_neI gu0 (by omega)) (by rw [lku]; omega)
          · exact get_neI (get_neI (get_app (get_app (get_app (get_app ft)))) (by omega)) (by rw [lku]; omega)
          · exact get_neI (get_neI (get_app (get_app (get_app (get_app fu)))) (by omega)) (by rw [lku]; omega)
          · rw [lku]
            have hl : O.length ≤ Oc.length := by omega
            generalize Oc.length = m at hl
            rw [hG, List.append_assoc O, List.append_assoc O, List.append_assoc O, List.append_assoc O, List.set_append_right _ _ (by omega), List.set_append_right _ _ (by omega)]
            exact ⟨_, rfl⟩
        obtain ⟨Oc, hOc, fk, fK, fU, ft, fu, hpre⟩ := NX
        rw [← hOc]
        clear hOc
        have fh := fk.h
        walk_at "px go"
        obtain ⟨G, rfl⟩ := hpre
        exact rt_drop rfl hcl q
theorem prod_nd {α β : Type} : ∀ {l : List α} {m : List β}, l.Nodup → m.Nodup → (l.flatMap fun a => m.map fun b => (a, b)).Nodup
  | [], _, _, _ => .nil
  | x :: l, m, nl, nm => by
    obtain ⟨h1, h2⟩ := List.nodup_cons.mp nl
    rw [List.flatMap_cons]
    refine List.nodup_append.mpr ⟨List.pairwise_map.mpr (nm.imp fun h e => h (congrArg Prod.snd e)), prod_nd h2 nm, fun a ha b hb z => ?_⟩
    obtain ⟨k, _, rfl⟩ := List.mem_map.mp ha
    obtain ⟨y, hy, hb⟩ := List.mem_flatMap.mp hb
    obtain ⟨k', _, rfl⟩ := List.mem_map.mp hb
    have : x = y := congrArg Prod.fst z
    exact h1 (by rw [this]; exact hy)
theorem undL_nil : undL [] = [] := rfl

/-! ### law -/
abbrev s_law : Stmt := topS 18
theorem sc_law : FnScope ["_law_script", "_law_pen_here", "_law_names_here", "_law_marks", "_law_life", "_law_start", "_law_step", "_law_keys_here", "_law_beside", "_law_stands", "_law_k", "_law_cell", "_law_pair", "_law_turn", "_law_deed_here", "_law_found", "_law_number_here", "_law_answer_here", "_law_now"] ["_law_script"] (defScope s_law) := ⟨rfl, rfl, rfl, by decide +kernel, rfl, by decide +kernel, by decide +kernel⟩
def T_law : SpX := fun ds O Q E => match ds with
  | [.lst es] => ∃ ns : List Int, es = ns.map .int ∧ ns.length ≤ 63 ∧ O = [.tab "Keys.kept", .tab "Keys.under"] ∧ ∀ O', Q (.bl true) O'
  | _ => False
theorem len_law : ∀ ds O Q E, T_law ds O Q E → ds.length = 1 := fun ds O Q E h => by
  match ds, h with
  | [.lst es], _ => rfl
theorem ok_law {P : Program} {w : World} {K : PySem.W.Frag} {mg : Str → Option Value} {base : Heap} {f : Addr} {fd : FuncData} (F : Fun K "law" "law" s_law f fd) (C__law_told_right : Cl P w K mg base "_law_told_right" 7 ["_law_keys_here", "_law_stands", "_law_life", "_law_turn"] T__law_told_right) (C__law_same : Cl P w K mg base "_law_same" 6 ["_law_found", "_law_due"] (T__law_same 5)) (C__law_take : Cl P w K mg base "_law_take" 1 ["_law_pen_here", "_law_most"] T__law_take) (C__law_number : Cl P w K mg base "_law_number" 2 ["_law_pen_here", "_law_least", "_law_most"] T__law_number) (C__law_answer : Cl P w K mg base "_law_answer" 3 ["_law_pen_here", "_law_deed_here"] T__law_answer) (C__law_deed : Cl P w K mg base "_law_deed" 3 ["_law_pen_here", "_law_names_here"] T__law_deed) (C__law_pen : Cl P w K mg base "_law_pen" 1 ["_law_cell", "_law_k"] T__law_pen) (C__law_keys : Cl P w K mg base "_law_keys" 2 ["_law_pen_here", "_law_many"] T__law_keys) (C__law_names : Cl P w K mg base "_law_names" 2 ["_law_pen_here", "_law_many"] T__law_names) (C__law_cell_at : Cl P w K mg base "_law_cell_at" 1 ["_law_script", "_law_k"] T__law_cell_at) (m_min : mg "min" = none) (m_enumerate : mg "enumerate" = none)   (CF_Keys : CF K 23) (MC_Keys_under_0 : MC P w K mg base 23 "under" 1 ["self"] [] T_Keys_under) (MC_Keys_kept_0 : MC P w K mg base 23 "kept" 1 ["self", "turn"] [] T_Keys_kept) (MC_Keys_begin_0 : MC P w K mg base 23 "begin" 3 ["self", "asker", "key", "number", "deed"] [] T_Keys_begin) (MC_Keys_drop_0 : MC P w K mg base 23 "drop" 3 ["self", "asker", "key"] [] T_Keys_drop) (MC_Keys_settle_0 : MC P w K mg base 23 "settle" 3 ["self", "asker", "key", "turn", "answer"] [] T_Keys_settle) (MK_Keys_0 : MkC P w K mg base "Keys" 23 1 ["self", "life"] [] T_Keys_init) :
    FnX P w K mg base 8 f fd ["_law_script"] T_law := by
  skip
  refine fnx_of F sc_law (len_law) _ (fun cdv A outer s H E hr => by
    have tk : Takes (cxOf (L2.CX P w) P w K mg base ["_law_script", "_law_pen_here", "_law_names_here", "_law_marks", "_law_life", "_law_start", "_law_step", "_law_keys_here", "_law_beside", "_law_stands", "_law_k", "_law_cell", "_law_pair", "_law_turn", "_law_deed_here", "_law_found", "_law_number_here", "_law_answer_here", "_law_now"] "law" (defScope s_law) f cdv A outer s H E) (W0 E) := takes_of rfl rfl rfl rfl
    have po : PassesOwn (model P w) (A.deeper (envOfC "law" (defScope s_law) s.heap.objs.size f cdv)) (envOfC "law" (defScope s_law) s.heap.objs.size f cdv) (cxOf (L2.CX P w) P w K mg base ["_law_script", "_law_pen_here", "_law_names_here", "_law_marks", "_law_life", "_law_start", "_law_step", "_law_keys_here", "_law_beside", "_law_stands", "_law_k", "_law_cell", "_law_pair", "_law_turn", "_law_deed_here", "_law_found", "_law_number_here", "_law_answer_here", "_law_now"] "law" (defScope s_law) f cdv A outer s H E).xe := passes_of rfl
    exact (psx_cons (psx_set (i := 1) sc_law.nd rfl (Or.inl rfl) (px_cl C__law_pen hr tk (pax_cons (px_cl C__law_cell_at hr tk (pax_cons (xv 0) (pax_cons px_int pax_nil))) (pax_cons px_int pax_nil))))
      (psx_cons (psx_set (i := 2) sc_law.nd rfl (Or.inl rfl) (px_cl C__law_names hr tk (pax_cons (xv 1) (pax_cons px_int pax_nil))))
      (psx_cons (psx_set (i := 3) sc_law.nd rfl (Or.inl rfl) (px_cl C__law_keys hr tk (pax_cons (xv 1) (pax_cons px_int pax_nil))))
      (psx_cons (psx_set (i := 4) sc_law.nd rfl (Or.inl rfl) (px_cl C__law_number hr tk (pax_cons (xv 1) (pax_cons px_int (pax_cons (px_op o_pow px_int px_int) pax_nil)))))
      (psx_cons (psx_set (i := 5) sc_law.nd rfl (Or.inl rfl) (px_cl C__law_take hr tk (pax_cons (xv 1) (pax_cons px_int pax_nil))))
      (psx_cons (psx_set (i := 6) sc_law.nd rfl (Or.inl rfl) (px_op o_addA px_int (px_cl C__law_take hr tk (pax_cons (xv 1) (pax_cons px_int pax_nil)))))
      (psx_cons (psx_set (i := 7) sc_law.nd rfl (Or.inl rfl) (px_make MK_Keys_0 hr tk (pax_cons (xv 4) pax_nil)))
      (psx_cons (psx_set (i := 8) sc_law.nd rfl (Or.inl rfl) (px_make MK_Keys_0 hr tk (pax_cons (xv 4) pax_nil)))
      (psx_cons (psx_set (i := 9) sc_law.nd rfl (Or.inl rfl) px_dnewT)
      (psx_cons (psx_for po rfl (pix_enum (by rfl) m_enumerate (px_slA (xv 0) (pox_some px_int) (pox_some px_int))) (pgx_seq (n := 2) rfl (pgsx_cons (i := 10) sc_law.nd rfl (Or.inl rfl) (pgsx_cons (i := 11) sc_law.nd rfl (Or.inl rfl) pgsx_nil))) (psx_cons (psx_set (i := 1) sc_law.nd rfl (Or.inl rfl) (px_cl C__law_pen hr tk (pax_cons (xv 11) (pax_cons (px_op o_addA (xv 10) px_int) pax_nil))))
      (psx_cons (psx_set (i := 12) sc_law.nd rfl (Or.inl rfl) (px_tup (pax_cons (px_ixA hr.u (xv 2) (px_cl C__law_take hr tk (pax_cons (xv 1) (pax_cons px_int pax_nil)))) (pax_cons (px_ixA hr.u (xv 3) (px_cl C__law_take hr tk (pax_cons (xv 1) (pax_cons px_int pax_nil)))) pax_nil))))
      (psx_cons (psx_set (i := 13) sc_law.nd rfl (Or.inl rfl) (px_cl C__law_number hr tk (pax_cons (xv 1) (pax_cons px_int (pax_cons (px_op o_pow px_int px_int) pax_nil)))))
      (psx_cons (psx_set (i := 14) sc_law.nd rfl (Or.inl rfl) (px_cl C__law_deed hr tk (pax_cons (xv 1) (pax_cons (xv 2) pax_nil))))
      (psx_cons (psx_set (i := 15) sc_law.nd rfl (Or.inl rfl) (px_bm PySem.F.plainAttrs_dict PySem.F.slot_dict_get PySem.F.type_dict_get (m_dgetT hr.u) (xv 9) (pax_cons (xv 12) pax_nil)))
      (psx_cons (psx_if (PWX.pt (pwx_or (ptx_cmp c_isA (xv 15) px_non) (pwx_or1 (ptx_cmp (c_eq hr.u) (px_ixA hr.u (xv 15) px_int) px_str)))) (psx_cons (psx_set (i := 16) sc_law.nd rfl (Or.inl rfl) (px_op o_addA px_int (px_op o_mod (px_op o_addA (xv 5) (px_op o_mul (xv 6) (xv 10))) px_int)))
      (psx_cons (psx_expr (px_meth MC_Keys_begin_0 CF_Keys hr tk (xv 7) (pax_cons (px_ixA hr.u (xv 12) px_int) (pax_cons (px_ixA hr.u (xv 12) px_int) (pax_cons (xv 16) (pax_cons (xv 14) pax_nil))))))
      (psx_cons (psx_asg (px_tup (pax_cons px_str (pax_cons (xv 16) (pax_cons px_non (pax_cons (xv 14) (pax_cons px_non pax_nil)))))) (pgx_subT hr.u (xv 9) (xv 12)))
      psx_nil))) (psx_cons (psx_if (ptx_cmp (c_eq hr.u) (px_cl C__law_take hr tk (pax_cons (xv 1) (pax_cons px_int pax_nil))) px_int) (psx_cons (psx_expr (px_meth MC_Keys_drop_0 CF_Keys hr tk (xv 7) (pax_cons (px_ixA hr.u (xv 12) px_int) (pax_cons (px_ixA hr.u (xv 12) px_int) pax_nil))))
      (psx_cons (psx_expr (px_bm PySem.F.plainAttrs_dict PySem.F.slot_dict_pop PySem.F.type_dict_pop (m_dpopT hr.u) (xv 9) (pax_cons (xv 12) pax_nil)))
      psx_nil)) (psx_cons (psx_set (i := 17) sc_law.nd rfl (Or.inl rfl) (px_cl C__law_answer hr tk (pax_cons (xv 1) (pax_cons (px_ixA hr.u (xv 15) px_int) pax_nil))))
      (psx_cons (psx_expr (px_meth MC_Keys_settle_0 CF_Keys hr tk (xv 7) (pax_cons (px_ixA hr.u (xv 12) px_int) (pax_cons (px_ixA hr.u (xv 12) px_int) (pax_cons (xv 13) (pax_cons (xv 17) pax_nil))))))
      (psx_cons (psx_asg (px_tup (pax_cons px_str (pax_cons (px_ixA hr.u (xv 15) px_int) (pax_cons (xv 13) (pax_cons (px_ixA hr.u (xv 15) px_int) (pax_cons (xv 17) pax_nil)))))) (pgx_subT hr.u (xv 9) (xv 12)))
      psx_nil))))
      psx_nil))
      (psx_cons (psx_set (i := 18) sc_law.nd rfl (Or.inl rfl) (px_cl C__law_number hr tk (pax_cons (xv 1) (pax_cons px_int (pax_cons (px_op o_pow px_int px_int) pax_nil)))))
      (psx_cons (psx_if (ptx_not (ptx_tru (px_cl C__law_told_right hr tk (pax_cons (xv 7) (pax_cons (xv 9) (pax_cons (xv 4) (pax_cons (xv 18) pax_nil))))))) (psx_cons (psx_ret px_bl)
      psx_nil) psx_nil)
      (psx_cons (psx_if (ptx_not (ptx_tru (px_cl C__law_told_right hr tk (pax_cons (xv 7) (pax_cons (xv 9) (pax_cons (xv 4) (pax_cons (px_callB (f_min2 rfl) (by rfl) m_min (by decide +kernel) (pax_cons (px_op o_pow px_int px_int) (pax_cons (px_op o_sub (px_op o_addA (xv 13) (xv 4)) (px_cl C__law_take hr tk (pax_cons (xv 1) (pax_cons px_int pax_nil)))) pax_nil))) pax_nil))))))) (psx_cons (psx_ret px_bl)
      psx_nil) psx_nil)
      psx_nil))))))))))
      (psx_cons (psx_ret (px_and (px_cl C__law_same hr tk (pax_cons (px_meth MC_Keys_kept_0 CF_Keys hr tk (xv 8) (pax_cons px_int pax_nil)) (pax_cons (px_lst pax_nil) pax_nil))) (px_and (px_cl C__law_same hr tk (pax_cons (px_meth0 MC_Keys_under_0 CF_Keys hr tk (xv 8)) (pax_cons (px_lst pax_nil) pax_nil))) (px_one (px_cl C__law_told_right hr tk (pax_cons (xv 7) (pax_cons (xv 9) (pax_cons (xv 4) (pax_cons px_int pax_nil)))))))))
      psx_nil)))))))))))) ?_
  intro ds O Q E h hcl
  match ds, h with
  | [.lst es], ⟨ns, h1, h2, h3⟩ =>
    subst h1
    obtain ⟨hO, q⟩ := h3
    have ht : O[0]? = some (Cell.tab "Keys.kept") := by rw [hO]; rfl
    have hu : O[1]? = some (Cell.tab "Keys.under") := by rw [hO]; rfl
    clear hO
    walk_at "px go"
    refine ⟨ns, rfl, Int.le_refl _, fun c => ?_⟩
    walk_at "px go"
    intro l1 hl1 hnm1 hnd1
    walk_at "px go"
    intro kl hkl hkm hknd
    walk_at "px go"
    try refine ⟨by decide, by decide, by decide, ?_⟩
    intro life lf0 lf1
    walk_at "px go"
    intro start x2 y2
    walk_at "px go"
    intro stp x3 y3
    obtain ⟨ps, eps⟩ : ∃ ps, ps = l1.flatMap fun a => kl.map fun b => (a, b) := ⟨_, rfl⟩
    have mps : ∀ {a b : Str}, a ∈ l1 → b ∈ kl → (a, b) ∈ ps := fun ha hb => by rw [eps]; exact List.mem_flatMap.mpr ⟨_, ha, List.mem_map.mpr ⟨_, hb, rfl⟩⟩
    have g0 : G42 ps [] := by
      refine ⟨.nil, (fun _ h => nomatch h), .nil, (fun _ h => nomatch h), fun p hp => ?_, ?_⟩
      · rw [eps] at hp
        obtain ⟨a, ha, hp⟩ := List.mem_flatMap.mp hp
        obtain ⟨b, hb, rfl⟩ := List.mem_map.mp hp
        exact ⟨nm_sok (hnm1 a ha), ky_sok (hkm b hb)⟩
      · rw [eps]; exact prod_nd hnd1 hknd
    clear eps hnm1 hnd1 hkm hknd
    walk_at "px go"
    refine ⟨O ++ [Cell.pen], rfl, rfl, ?_⟩
    walk_at "px go"
    refine ⟨O ++ [Cell.pen] ++ [Cell.ins 23 [.int life, .own ((O ++ [Cell.pen]).length + 1)]] ++ [Cell.dT []], rfl, rfl, ?_⟩
    have h0 : keysAt (O ++ [Cell.pen] ++ [Cell.ins 23 [.int life, .own ((O ++ [Cell.pen]).length + 1)]] ++ [Cell.dT []] ++ [Cell.ins 23 [.int life, .own ((O ++ [Cell.pen] ++ [Cell.ins 23 [.int life, .own ((O ++ [Cell.pen]).length + 1)]] ++ [Cell.dT []]).length + 1)]] ++ [Cell.dT []] ++ [Cell.dT []]) (O ++ [Cell.pen]).length ((O ++ [Cell.pen]).length + 1) life [] := ⟨get_app (get_app (get_app (get_app get_new))), get_app (get_app (get_app get_new2))⟩
    have b0 : keysAt (O ++ [Cell.pen] ++ [Cell.ins 23 [.int life, .own ((O ++ [Cell.pen]).length + 1)]] ++ [Cell.dT []] ++ [Cell.ins 23 [.int life, .own ((O ++ [Cell.pen] ++ [Cell.ins 23 [.int life, .own ((O ++ [Cell.pen]).length + 1)]] ++ [Cell.dT []]).length + 1)]] ++ [Cell.dT []] ++ [Cell.dT []]) (O ++ [Cell.pen] ++ [Cell.ins 23 [.int life, .own ((O ++ [Cell.pen]).length + 1)]] ++ [Cell.dT []]).length ((O ++ [Cell.pen] ++ [Cell.ins 23 [.int life, .own ((O ++ [Cell.pen]).length + 1)]] ++ [Cell.dT []]).length + 1) life [] := ⟨get_app (get_app get_new), get_app get_new2⟩
    have s0 : (O ++ [Cell.pen] ++ [Cell.ins 23 [.int life, .own ((O ++ [Cell.pen]).length + 1)]] ++ [Cell.dT []] ++ [Cell.ins 23 [.int life, .own ((O ++ [Cell.pen] ++ [Cell.ins 23 [.int life, .own ((O ++ [Cell.pen]).length + 1)]] ++ [Cell.dT []]).length + 1)]] ++ [Cell.dT []] ++ [Cell.dT []])[(O ++ [Cell.pen] ++ [Cell.ins 23 [.int life, .own ((O ++ [Cell.pen]).length + 1)]] ++ [Cell.dT []] ++ [Cell.ins 23 [.int life, .own ((O ++ [Cell.pen] ++ [Cell.ins 23 [.int life, .own ((O ++ [Cell.pen]).length + 1)]] ++ [Cell.dT []]).length + 1)]] ++ [Cell.dT []]).length]? = some (.dT (stP [])) := get_new
    have ht : (O ++ [Cell.pen] ++ [Cell.ins 23 [.int life, .own ((O ++ [Cell.pen]).length + 1)]] ++ [Cell.dT []] ++ [Cell.ins 23 [.int life, .own ((O ++ [Cell.pen] ++ [Cell.ins 23 [.int life, .own ((O ++ [Cell.pen]).length + 1)]] ++ [Cell.dT []]).length + 1)]] ++ [Cell.dT []] ++ [Cell.dT []])[0]? = some (Cell.tab "Keys.kept") := get_app (get_app (get_app (get_app (get_app (get_app ht)))))
    have hu : (O ++ [Cell.pen] ++ [Cell.ins 23 [.int life, .own ((O ++ [Cell.pen]).length + 1)]] ++ [Cell.dT []] ++ [Cell.ins 23 [.int life, .own ((O ++ [Cell.pen] ++ [Cell.ins 23 [.int life, .own ((O ++ [Cell.pen]).length + 1)]] ++ [Cell.dT []]).length + 1)]] ++ [Cell.dT []] ++ [Cell.dT []])[1]? = some (Cell.tab "Keys.under") := get_app (get_app (get_app (get_app (get_app (get_app hu)))))
    have ll1 : (O ++ [Cell.pen] ++ [Cell.ins 23 [.int life, .own ((O ++ [Cell.pen]).length + 1)]] ++ [Cell.dT []]).length = (O ++ [Cell.pen]).length + 2 := by simp
    have ll2 : (O ++ [Cell.pen] ++ [Cell.ins 23 [.int life, .own ((O ++ [Cell.pen]).length + 1)]] ++ [Cell.dT []] ++ [Cell.ins 23 [.int life, .own ((O ++ [Cell.pen] ++ [Cell.ins 23 [.int life, .own ((O ++ [Cell.pen]).length + 1)]] ++ [Cell.dT []]).length + 1)]] ++ [Cell.dT []]).length = (O ++ [Cell.pen]).length + 4 := by simp
    walk_at "px go"
    generalize O ++ [Cell.pen] ++ [Cell.ins 23 [.int life, .own ((O ++ [Cell.pen]).length + 1)]] ++ [Cell.dT []] ++ [Cell.ins 23 [.int life, .own ((O ++ [Cell.pen] ++ [Cell.ins 23 [.int life, .own ((O ++ [Cell.pen]).length + 1)]] ++ [Cell.dT []]).length + 1)]] ++ [Cell.dT []] ++ [Cell.dT []] = O1 at h0 b0 s0 ht hu ⊢
    generalize (O ++ [Cell.pen] ++ [Cell.ins 23 [.int life, .own ((O ++ [Cell.pen]).length + 1)]] ++ [Cell.dT []] ++ [Cell.ins 23 [.int life, .own ((O ++ [Cell.pen] ++ [Cell.ins 23 [.int life, .own ((O ++ [Cell.pen]).length + 1)]] ++ [Cell.dT []]).length + 1)]] ++ [Cell.dT []]).length = sa at s0 ll2 ⊢
    generalize (O ++ [Cell.pen] ++ [Cell.ins 23 [.int life, .own ((O ++ [Cell.pen]).length + 1)]] ++ [Cell.dT []]).length = ba at b0 ll1 ⊢
    generalize (O ++ [Cell.pen]).length = ka at h0 ll1 ll2 ⊢
    have hne : sa ≠ ka + 1 := by omega
    have nb1 : ka + 1 ≠ ba := by omega
    have nb2 : ka + 1 ≠ ba + 1 := by omega
    have ns1 : sa ≠ ba := by omega
    have ns2 : sa ≠ ba + 1 := by omega
    clear ll1 ll2
    obtain ⟨ms, ems⟩ := cut_ints (ns := ns) (i := some 1) (j := some 63)
    have hcut : (Px.cutD (ns.map .int) (some 1) (some 63)).length ≤ 62 := cut_le (by decide) (by decide)
    rw [ems] at hcut ⊢
    rw [List.length_map] at hcut
    walk_at "px go"
    refine forGo_inv (fun rest G' O' => ∃ (i : Nat) (ms' : List Int) (st : Sts) (p1 : Nat) (g10 g11 g12 g13 g14 g15 g16 g17 g18 : Option D), rest = enumD i (ms'.map .int) ∧ i + ms'.length ≤ 62 ∧ st.length ≤ i ∧ keysAt O' ka (ka + 1) life st ∧ keysAt O' ba (ba + 1) life [] ∧ O'[sa]? = some (.dT (stP st)) ∧ O'[0]? = some (Cell.tab "Keys.kept") ∧ O'[1]? = some (Cell.tab "Keys.under") ∧ G42 ps st ∧ N42 start (1 + stp) i st ∧ G' = [some (.lst (ns.map .int)), some (.own p1), some (.lst (l1.map .str)), some (.lst (kl.map .str)), some (.int life), some (.int start), some (.int (1 + stp)), some (.own ka), some (.own ba), some (.own sa), g10, g11, g12, g13, g14, g15, g16, g17, g18]) ⟨0, ms, [], _, _, _, _, _, _, _, _, _, _, rfl, by omega, Nat.le_refl _, h0, b0, s0, ht, hu, g0, ⟨fun _ h => nomatch h⟩, rfl⟩ (fun _ _ _ _ => trivial) ?_ ?_
    · rintro d rest G' O' ⟨i, ms', st, p1, g10, g11, g12, g13, g14, g15, g16, g17, g18, er, hb, hl, hk, hbs, hd, ht, hu, hg, hN, rfl⟩ nx hnx
      clear h0 s0 g0 b0
      cases ms' with
      | nil => cases er
      | cons c ms' =>
      cases (show d :: rest = D.tup [.int (i : Nat), .int c] :: enumD (i + 1) (ms'.map .int) from er)
      rw [List.length_cons] at hb
      have gp : (O' ++ [Cell.pen])[O'.length]? = some .pen := get_new
      have hk : keysAt (O' ++ [Cell.pen]) ka (ka + 1) life st := ⟨get_app hk.h, get_app hk.d⟩
      have hbs : keysAt (O' ++ [Cell.pen]) ba (ba + 1) life [] := ⟨get_app hbs.h, get_app hbs.d⟩
      have hd : (O' ++ [Cell.pen])[sa]? = some (.dT (stP st)) := get_app hd
      have ht : (O' ++ [Cell.pen])[0]? = some (Cell.tab "Keys.kept") := get_app ht
      have hu : (O' ++ [Cell.pen])[1]? = some (Cell.tab "Keys.under") := get_app hu
      walk_at "px go"
      generalize O' ++ [Cell.pen] = O4 at gp hk hbs hd ht hu ⊢
      generalize O'.length = p2 at gp ⊢
      intro r1 x1 y1
      walk_at "px go"
      refine pickK (fun d => ∃ p : Str, d = .str p ∧ p ∈ l1) x1 (by rw [List.length_map, hl1]; exact y1) (fun d hd => ?_) (fun d hd => ?_)
      · obtain ⟨p, hp, rfl⟩ := List.mem_map.mp hd; exact ⟨p, rfl, hp⟩
      obtain ⟨px, rfl, hm1⟩ := hd
      clear x1 y1
      walk_at "px go"
      intro r1 x1 y1
      walk_at "px go"
      refine pickK (fun d => ∃ p : Str, d = .str p ∧ p ∈ kl) x1 (by rw [List.length_map, hkl]; exact y1) (fun d hd => ?_) (fun d hd => ?_)
      · obtain ⟨p, hp, rfl⟩ := List.mem_map.mp hd; exact ⟨p, rfl, hp⟩
      obtain ⟨py, rfl, hm2⟩ := hd
      clear x1 y1
      have hmem : (px, py) ∈ ps := mps hm1 hm2
      clear hm1 hm2
      walk_at "px go"
      refine ⟨by show (1000000000000 : Int) ≤ 1000000000000000; decide, ?_⟩
      intro turn t0 t1
      clear t0 t1
      walk_at "px go"
      have hl1' : l1.length = 4 := hl1
      refine ⟨l1, gp, rfl, by omega, by omega, fun ws n hw n0 n1 => ?_⟩
      have hdd : DeedD (.tup (ws.map .str ++ [.int n])) := ⟨ws, n, rfl, hw, n0, n1⟩
      have ev := valD_T st (px, py)
      rw [show kyP (px, py) = [.inr px, .inr py] from rfl] at ev
      cases hv : valD st (px, py) with
      | none =>
        rw [hv] at ev
        have ev : valD (stP st) [Sum.inr px, Sum.inr py] = none := ev
        have hb : busyB (valD st (px, py)) = false := by rw [hv]; rfl
        have fkh := hk.h
        walk_at "px go"
        rw [ev]
        walk_at "px go"
        generalize hnn : (1 + (fun i j : Int => i % j) (start + (fun i j : Int => i * j) (1 + stp) (i : Nat)) 999983 : Int) = nn
        have hnn : nmN start (1 + stp) i = nn := hnn
        refine ⟨ka + 1, life, st, hk, by omega, fun n0 d0 hv' => (by rw [hv'] at hb; cases hb), fun _ => ?_⟩
        obtain ⟨st2, hst2⟩ : ∃ st2, st2 = putD st (px, py) (nn, .tup (ws.map .str ++ [.int n]), none) := ⟨_, rfl⟩
        have S : G42 ps st2 ∧ N42 start (1 + stp) (i + 1) st2 ∧ st2.length ≤ i + 1 := by
          have z := step42 (way := 0) (t := turn) (a := .tup [.str "ok"]) hg hN hl hmem hdd (.inl ⟨_, rfl⟩) (by omega) (by omega) (by omega)
          rw [hnn, stepR_f hb, if_pos rfl] at z
          rw [hst2]
          exact ⟨z.1, z.2.1, z.2.2.1⟩
        have eP : putD (stP st) [Sum.inr px, Sum.inr py] (D.tup [.str "busy", .int nn, .non, .tup (ws.map .str ++ [.int n]), .non]) = stP st2 := by
          rw [hst2, ← putD_T]; rfl
        rw [show putD st ((px, py).1, (px, py).2) (nn, .tup (ws.map .str ++ [.int n]), none) = st2 from hst2.symm]
        clear hst2
        have nka : sa ≠ ka := fun e => by rw [e, hk.h] at hd; cases hd
        have hk2 : keysAt (O4.set (ka + 1) (.dT (stP st2))) ka (ka + 1) life st2 := hk.set
        have hbs2 : keysAt (O4.set (ka + 1) (.dT (stP st2))) ba (ba + 1) life [] := hbs.sets nb1 nb2
        have hd2 : (O4.set (ka + 1) (.dT (stP st2)))[sa]? = some (.dT (stP st)) := get_neI hd (Ne.symm hne)
        have gp2 : (O4.set (ka + 1) (.dT (stP st2)))[p2]? = some .pen := get_ne gp hk.d (fun z => nomatch z)
        have ht2 : (O4.set (ka + 1) (.dT (stP st2)))[0]? = some (Cell.tab "Keys.kept") := get_ne ht hk.d (fun z => nomatch z)
        have hu2 : (O4.set (ka + 1) (.dT (stP st2)))[1]? = some (Cell.tab "Keys.under") := get_ne hu hk.d (fun z => nomatch z)
        have hl2 : (stP st).length < 1000000 := by rw [st_len]; omega
        generalize hO5 : O4.set (ka + 1) (.dT (stP st2)) = O5 at hk2 hbs2 hd2 gp2 ht2 hu2 ⊢
        clear hO5 hk hbs hd gp ht hu
        walk_at "px go"
        rw [eP]
        have hk3 : keysAt (O5.set sa (.dT (stP st2))) ka (ka + 1) life st2 := hk2.sets nka hne
        have hbs3 : keysAt (O5.set sa (.dT (stP st2))) ba (ba + 1) life [] := hbs2.sets ns1 ns2
        have hd3 : (O5.set sa (.dT (stP st2)))[sa]? = some (.dT (stP st2)) := get_self hd2
        have gp3 : (O5.set sa (.dT (stP st2)))[p2]? = some .pen := get_ne gp2 hd2 (fun z => nomatch z)
        have ht3 : (O5.set sa (.dT (stP st2)))[0]? = some (Cell.tab "Keys.kept") := get_ne ht2 hd2 (fun z => nomatch z)
        have hu3 : (O5.set sa (.dT (stP st2)))[1]? = some (Cell.tab "Keys.under") := get_ne hu2 hd2 (fun z => nomatch z)
        generalize O5.set sa (.dT (stP st2)) = O6 at hk3 hbs3 hd3 gp3 ht3 hu3 ⊢
        clear hk2 hbs2 hd2 gp2 ht2 hu2 eP hl2
        obtain ⟨hg3, hN3, hl3⟩ := S
        clear hg hN
        walk_at "px go"
        refine ⟨by show (1000000000000 : Int) ≤ 1000000000000000; decide, ?_⟩
        intro now z0 z1
        clear z0 z1
        walk_at "px go"
        refine ⟨ka + 1, st2, ps, 0, 1, hk3, hd3, by omega, hg3, ht3, hu3, ?_⟩
        walk_at "px go"
        intro rr z0 z1
        walk_at "px go"
        refine ⟨ka + 1, st2, ps, 0, 1, hk3, hd3, by omega, hg3, ht3, hu3, ?_⟩
        walk_at "px go"
        exact hnx _ _ ⟨i + 1, ms', st2, p2, _, _, _, _, _, _, _, _, _, rfl, by omega, hl3, hk3, hbs3, hd3, ht3, hu3, hg3, hN3, rfl⟩
      | some e =>
        obtain ⟨n0', d0, o⟩ := e
        cases o with
        | none =>
          rw [hv] at ev
          have ev : valD (stP st) [Sum.inr px, Sum.inr py] = some (.tup [.str "busy", .int n0', .non, d0, .non]) := ev
          have hb : busyB (valD st (px, py)) = true := by rw [hv]; rfl
          have fkh := hk.h
          obtain ⟨wsA, nA, ed, hwA, nA0, nA1⟩ := (hg.ok.val hv).1
          have ed : d0 = _ := ed
          subst ed
          walk_at "px go"
          rw [ev]
          walk_at "px go"
          intro way w0 w1
          clear w1
          walk_at "px go"
          refine xite_int (fun w => ?_) (fun w => ?_)
          · walk_at "px go"
            refine ⟨ka + 1, life, st, hk, fun hf => (by rw [show valD st (px, py) = _ from hv] at hf; cases hf), fun _ => ?_⟩
            obtain ⟨st2, hst2⟩ : ∃ st2, st2 = dropD st (px, py) := ⟨_, rfl⟩
            have S : G42 ps st2 ∧ N42 start (1 + stp) (i + 1) st2 ∧ st2.length ≤ i + 1 := by
              have z := step42 (way := 1) (t := turn) (a := .tup [.str "ok"]) hg hN hl hmem hdd (.inl ⟨_, rfl⟩) (by omega) (by omega) (by omega)
              rw [stepR_b hv, if_neg (by decide), if_pos rfl] at z
              rw [hst2]
              exact ⟨z.1, z.2.1, z.2.2.1⟩
            have eP : dropD (stP st) [Sum.inr px, Sum.inr py] = stP st2 := by
              rw [hst2, ← dropD_T]; rfl
            rw [show dropD st ((px, py).1, (px, py).2) = st2 from hst2.symm]
            clear hst2
            have nka : sa ≠ ka := fun e => by rw [e, hk.h] at hd; cases hd
            have hk2 : keysAt (O4.set (ka + 1) (.dT (stP st2))) ka (ka + 1) life st2 := hk.set
            have hbs2 : keysAt (O4.set (ka + 1) (.dT (stP st2))) ba (ba + 1) life [] := hbs.sets nb1 nb2
            have hd2 : (O4.set (ka + 1) (.dT (stP st2)))[sa]? = some (.dT (stP st)) := get_neI hd (Ne.symm hne)
            have gp2 : (O4.set (ka + 1) (.dT (stP st2)))[p2]? = some .pen := get_ne gp hk.d (fun z => nomatch z)
            have ht2 : (O4.set (ka + 1) (.dT (stP st2)))[0]? = some (Cell.tab "Keys.kept") := get_ne ht hk.d (fun z => nomatch z)
            have hu2 : (O4.set (ka + 1) (.dT (stP st2)))[1]? = some (Cell.tab "Keys.under") := get_ne hu hk.d (fun z => nomatch z)
            have hl2 : (stP st).length < 1000000 := by rw [st_len]; omega
            generalize hO5 : O4.set (ka + 1) (.dT (stP st2)) = O5 at hk2 hbs2 hd2 gp2 ht2 hu2 ⊢
            clear hO5 hk hbs hd gp ht hu
            walk_at "px go"
            rw [eP]
            have hk3 : keysAt (O5.set sa (.dT (stP st2))) ka (ka + 1) life st2 := hk2.sets nka hne
            have hbs3 : keysAt (O5.set sa (.dT (stP st2))) ba (ba + 1) life [] := hbs2.sets ns1 ns2
            have hd3 : (O5.set sa (.dT (stP st2)))[sa]? = some (.dT (stP st2)) := get_self hd2
            have gp3 : (O5.set sa (.dT (stP st2)))[p2]? = some .pen := get_ne gp2 hd2 (fun z => nomatch z)
            have ht3 : (O5.set sa (.dT (stP st2)))[0]? = some (Cell.tab "Keys.kept") := get_ne ht2 hd2 (fun z => nomatch z)
            have hu3 : (O5.set sa (.dT (stP st2)))[1]? = some (Cell.tab "Keys.under") := get_ne hu2 hd2 (fun z => nomatch z)
            generalize O5.set sa (.dT (stP st2)) = O6 at hk3 hbs3 hd3 gp3 ht3 hu3 ⊢
            clear hk2 hbs2 hd2 gp2 ht2 hu2 eP hl2
            obtain ⟨hg3, hN3, hl3⟩ := S
            clear hg hN
            walk_at "px go"
            refine ⟨by show (1000000000000 : Int) ≤ 1000000000000000; decide, ?_⟩
            intro now z0 z1
            clear z0 z1
            walk_at "px go"
            refine ⟨ka + 1, st2, ps, 0, 1, hk3, hd3, by omega, hg3, ht3, hu3, ?_⟩
            walk_at "px go"
            intro rr z0 z1
            walk_at "px go"
            refine ⟨ka + 1, st2, ps, 0, 1, hk3, hd3, by omega, hg3, ht3, hu3, ?_⟩
            walk_at "px go"
            exact hnx _ _ ⟨i + 1, ms', st2, p2, _, _, _, _, _, _, _, _, _, rfl, by omega, hl3, hk3, hbs3, hd3, ht3, hu3, hg3, hN3, rfl⟩
          · walk_at "px go"
            refine ⟨wsA, nA, gp, rfl, hwA, nA0, nA1, fun a haa => ?_⟩
            walk_at "px go"
            refine ⟨ka + 1, life, st, hk, by omega, fun hf => (by rw [show valD st (px, py) = _ from hv] at hf; cases hf), fun n1 d1 hv1 => ?_⟩
            have hv1 : valD st (px, py) = some (n1, d1, none) := hv1
            rw [hv] at hv1
            cases hv1
            obtain ⟨st2, hst2⟩ : ∃ st2, st2 = putD st (px, py) (n0', .tup (wsA.map .str ++ [.int nA]), some (turn, a)) := ⟨_, rfl⟩
            have S : G42 ps st2 ∧ N42 start (1 + stp) (i + 1) st2 ∧ st2.length ≤ i + 1 := by
              have z := step42 (way := 2) (t := turn) (a := a) hg hN hl hmem hdd haa (by omega) (by omega) (by omega)
              rw [stepR_b hv, if_neg (by decide), if_neg (by decide)] at z
              rw [hst2]
              exact ⟨z.1, z.2.1, z.2.2.1⟩
            have eP : putD (stP st) [Sum.inr px, Sum.inr py] (D.tup [.str "kept", .int n0', .int turn, .tup (wsA.map .str ++ [.int nA]), a]) = stP st2 := by
              rw [hst2, ← putD_T]; rfl
            rw [show putD st ((px, py).1, (px, py).2) (n0', .tup (wsA.map .str ++ [.int nA]), some (turn, a)) = st2 from hst2.symm]
            clear hst2
            have nka : sa ≠ ka := fun e => by rw [e, hk.h] at hd; cases hd
            have hk2 : keysAt (O4.set (ka + 1) (.dT (stP st2))) ka (ka + 1) life st2 := hk.set
            have hbs2 : keysAt (O4.set (ka + 1) (.dT (stP st2))) ba (ba + 1) life [] := hbs.sets nb1 nb2
            have hd2 : (O4.set (ka + 1) (.dT (stP st2)))[sa]? = some (.dT (stP st)) := get_neI hd (Ne.symm hne)
            have gp2 : (O4.set (ka + 1) (.dT (stP st2)))[p2]? = some .pen := get_ne gp hk.d (fun z => nomatch z)
            have ht2 : (O4.set (ka + 1) (.dT (stP st2)))[0]? = some (Cell.tab "Keys.kept") := get_ne ht hk.d (fun z => nomatch z)
            have hu2 : (O4.set (ka + 1) (.dT (stP st2)))[1]? = some (Cell.tab "Keys.under") := get_ne hu hk.d (fun z => nomatch z)
            have hl2 : (stP st).length < 1000000 := by rw [st_len]; omega
            generalize hO5 : O4.set (ka + 1) (.dT (stP st2)) = O5 at hk2 hbs2 hd2 gp2 ht2 hu2 ⊢
            clear hO5 hk hbs hd gp ht hu
            walk_at "px go"
            rw [eP]
            have hk3 : keysAt (O5.set sa (.dT (stP st2))) ka (ka + 1) life st2 := hk2.sets nka hne
            have hbs3 : keysAt (O5.set sa (.dT (stP st2))) ba (ba + 1) life [] := hbs2.sets ns1 ns2
            have hd3 : (O5.set sa (.dT (stP st2)))[sa]? = some (.dT (stP st2)) := get_self hd2
            have gp3 : (O5.set sa (.dT (stP st2)))[p2]? = some .pen := get_ne gp2 hd2 (fun z => nomatch z)
            have ht3 : (O5.set sa (.dT (stP st2)))[0]? = some (Cell.tab "Keys.kept") := get_ne ht2 hd2 (fun z => nomatch z)
            have hu3 : (O5.set sa (.dT (stP st2)))[1]? = some (Cell.tab "Keys.under") := get_ne hu2 hd2 (fun z => nomatch z)
            generalize O5.set sa (.dT (stP st2)) = O6 at hk3 hbs3 hd3 gp3 ht3 hu3 ⊢
            clear hk2 hbs2 hd2 gp2 ht2 hu2 eP hl2
            obtain ⟨hg3, hN3, hl3⟩ := S
            clear hg hN
            walk_at "px go"
            refine ⟨by show (1000000000000 : Int) ≤ 1000000000000000; decide, ?_⟩
            intro now z0 z1
            clear z0 z1
            walk_at "px go"
            refine ⟨ka + 1, st2, ps, 0, 1, hk3, hd3, by omega, hg3, ht3, hu3, ?_⟩
            walk_at "px go"
            intro rr z0 z1
            walk_at "px go"
            refine ⟨ka + 1, st2, ps, 0, 1, hk3, hd3, by omega, hg3, ht3, hu3, ?_⟩
            walk_at "px go"
            exact hnx _ _ ⟨i + 1, ms', st2, p2, _, _, _, _, _, _, _, _, _, rfl, by omega, hl3, hk3, hbs3, hd3, ht3, hu3, hg3, hN3, rfl⟩
        | some z =>
          obtain ⟨t0, a0⟩ := z
          rw [hv] at ev
          have ev : valD (stP st) [Sum.inr px, Sum.inr py] = some (.tup [.str "kept", .int n0', .int t0, d0, a0]) := ev
          have hb : busyB (valD st (px, py)) = false := by rw [hv]; rfl
          have fkh := hk.h
          walk_at "px go"
          rw [ev]
          walk_at "px go"
          generalize hnn : (1 + (fun i j : Int => i % j) (start + (fun i j : Int => i * j) (1 + stp) (i : Nat)) 999983 : Int) = nn
          have hnn : nmN start (1 + stp) i = nn := hnn
          refine ⟨ka + 1, life, st, hk, by omega, fun n0 d0 hv' => (by rw [hv'] at hb; cases hb), fun _ => ?_⟩
          obtain ⟨st2, hst2⟩ : ∃ st2, st2 = putD st (px, py) (nn, .tup (ws.map .str ++ [.int n]), none) := ⟨_, rfl⟩
          have S : G42 ps st2 ∧ N42 start (1 + stp) (i + 1) st2 ∧ st2.length ≤ i + 1 := by
            have z := step42 (way := 0) (t := turn) (a := .tup [.str "ok"]) hg hN hl hmem hdd (.inl ⟨_, rfl⟩) (by omega) (by omega) (by omega)
            rw [hnn, stepR_f hb, if_pos rfl] at z
            rw [hst2]
            exact ⟨z.1, z.2.1, z.2.2.1⟩
          have eP : putD (stP st) [Sum.inr px, Sum.inr py] (D.tup [.str "busy", .int nn, .non, .tup (ws.map .str ++ [.int n]), .non]) = stP st2 := by
            rw [hst2, ← putD_T]; rfl
          rw [show putD st ((px, py).1, (px, py).2) (nn, .tup (ws.map .str ++ [.int n]), none) = st2 from hst2.symm]
          clear hst2
          have nka : sa ≠ ka := fun e => by rw [e, hk.h] at hd; cases hd
          have hk2 : keysAt (O4.set (ka + 1) (.dT (stP st2))) ka (ka + 1) life st2 := hk.set
          have hbs2 : keysAt (O4.set (ka + 1) (.dT (stP st2))) ba (ba + 1) life [] := hbs.sets nb1 nb2
          have hd2 : (O4.set (ka + 1) (.dT (stP st2)))[sa]? = some (.dT (stP st)) := get_neI hd (Ne.symm hne)
          have gp2 : (O4.set (ka + 1) (.dT (stP st2)))[p2]? = some .pen := get_ne gp hk.d (fun z => nomatch z)
          have ht2 : (O4.set (ka + 1) (.dT (stP st2)))[0]? = some (Cell.tab "Keys.kept") := get_ne ht hk.d (fun z => nomatch z)
          have hu2 : (O4.set (ka + 1) (.dT (stP st2)))[1]? = some (Cell.tab "Keys.under") := get_ne hu hk.d (fun z => nomatch z)
          have hl2 : (stP st).length < 1000000 := by rw [st_len]; omega
          generalize hO5 : O4.set (ka + 1) (.dT (stP st2)) = O5 at hk2 hbs2 hd2 gp2 ht2 hu2 ⊢
          clear hO5 hk hbs hd gp ht hu
          walk_at "px go"
          rw [eP]
          have hk3 : keysAt (O5.set sa (.dT (stP st2))) ka (ka + 1) life st2 := hk2.sets nka hne
          have hbs3 : keysAt (O5.set sa (.dT (stP st2))) ba (ba + 1) life [] := hbs2.sets ns1 ns2
          have hd3 : (O5.set sa (.dT (stP st2)))[sa]? = some (.dT (stP st2)) := get_self hd2
          have gp3 : (O5.set sa (.dT (stP st2)))[p2]? = some .pen := get_ne gp2 hd2 (fun z => nomatch z)
          have ht3 : (O5.set sa (.dT (stP st2)))[0]? = some (Cell.tab "Keys.kept") := get_ne ht2 hd2 (fun z => nomatch z)
          have hu3 : (O5.set sa (.dT (stP st2)))[1]? = some (Cell.tab "Keys.under") := get_ne hu2 hd2 (fun z => nomatch z)
          generalize O5.set sa (.dT (stP st2)) = O6 at hk3 hbs3 hd3 gp3 ht3 hu3 ⊢
          clear hk2 hbs2 hd2 gp2 ht2 hu2 eP hl2
          obtain ⟨hg3, hN3, hl3⟩ := S
          clear hg hN
          walk_at "px go"
          refine ⟨by show (1000000000000 : Int) ≤ 1000000000000000; decide, ?_⟩
          intro now z0 z1
          clear z0 z1
          walk_at "px go"
          refine ⟨ka + 1, st2, ps, 0, 1, hk3, hd3, by omega, hg3, ht3, hu3, ?_⟩
          walk_at "px go"
          intro rr z0 z1
          walk_at "px go"
          refine ⟨ka + 1, st2, ps, 0, 1, hk3, hd3, by omega, hg3, ht3, hu3, ?_⟩
          walk_at "px go"
          exact hnx _ _ ⟨i + 1, ms', st2, p2, _, _, _, _, _, _, _, _, _, rfl, by omega, hl3, hk3, hbs3, hd3, ht3, hu3, hg3, hN3, rfl⟩
    · rintro G' O' ⟨i, ms', st, p1, g10, g11, g12, g13, g14, g15, g16, g17, g18, er, hb, hl, hk, hbs, hd, ht, hu, hg, hN, rfl⟩
      have fb := hbs.h
      walk_at "px go"
      refine ⟨ba + 1, life, [], 0, hbs, (by decide), ⟨(fun _ h => nomatch h), (fun _ h => nomatch h), (fun _ h => nomatch h)⟩, ht, fun es hp _ => ?_⟩
      obtain rfl := hp.eq_nil
      walk_at "px go"
      refine ⟨.lst [], sm_own (ds := []) get_new2 rfl, sm_refl rfl, ?_⟩
      have hbs4 : keysAt (O' ++ [Cell.lst (keptL life 0 [])] ++ [Cell.lst []]) ba (ba + 1) life [] := ⟨get_app (get_app hbs.h), get_app (get_app hbs.d)⟩
      have fb4 := hbs4.h
      walk_at "px go"
      refine ⟨ba + 1, life, [], 1, hbs4, (by decide), ⟨(fun _ h => nomatch h), (fun _ h => nomatch h), (fun _ h => nomatch h)⟩, get_app (get_app hu), fun es hp _ => ?_⟩
      obtain rfl := hp.eq_nil
      walk_at "px go"
      refine ⟨.lst [], sm_own (ds := []) get_new2 rfl, sm_refl rfl, ?_⟩
      walk_at "px go"
      refine ⟨ka + 1, st, ps, 0, 1, ⟨get_app (get_app (get_app (get_app hk.h))), get_app (get_app (get_app (get_app hk.d)))⟩, get_app (get_app (get_app (get_app hd))), by omega, hg, get_app (get_app (get_app (get_app ht))), get_app (get_app (get_app (get_app hu))), ?_⟩
      walk_at "px go"
      exact .inl (q _)

theorem law_at (ns : List Int) (hl : ns.length ≤ 63) : T_law [.lst (ns.map .int)] [Cell.tab "Keys.kept", Cell.tab "Keys.under"] (fun d _ => d = .bl true) (fun _ _ => False) := ⟨ns, rfl, hl, rfl, fun _ => rfl⟩
theorem all_mk {l : PySem.W.OpenLaw} {w : World} {K : PySem.W.Frag} {h : Heap} {mg : Str → Option Value} {fa : Addr} (X : K.In h) (G : h.Ns mainGlobals mg) (hfa : mg "law" = some (.ref fa))
    {fa0 : Addr} {od0 an0 : Option Addr} {sl0 : Array (Option Value)} {oc0 kV0 dc0 pm0 cd0 ct0 : Value}
    {fa1 : Addr} {od1 an1 : Option Addr} {sl1 : Array (Option Value)} {oc1 kV1 dc1 pm1 cd1 ct1 : Value}
    {fa2 : Addr} {od2 an2 : Option Addr} {sl2 : Array (Option Value)} {oc2 kV2 dc2 pm2 cd2 ct2 : Value}
    {fa3 : Addr} {od3 an3 : Option Addr} {sl3 : Array (Option Value)} {oc3 kV3 dc3 pm3 cd3 ct3 : Value}
    {fa4 : Addr} {od4 an4 : Option Addr} {sl4 : Array (Option Value)} {oc4 kV4 dc4 pm4 cd4 ct4 : Value}
    {fa5 : Addr} {od5 an5 : Option Addr} {sl5 : Array (Option Value)} {oc5 kV5 dc5 pm5 cd5 ct5 : Value}
    {fa6 : Addr} {od6 an6 : Option Addr} {sl6 : Array (Option Value)} {oc6 kV6 dc6 pm6 ct6 : Value} {cc6 : Addr}
    {fa7 : Addr} {od7 an7 : Option Addr} {sl7 : Array (Option Value)} {oc7 kV7 dc7 pm7 ct7 : Value} {cc7 : Addr}
    {fa8 : Addr} {od8 an8 : Option Addr} {sl8 : Array (Option Value)} {oc8 kV8 dc8 pm8 cd8 ct8 : Value}
    {fa9 : Addr} {od9 an9 : Option Addr} {sl9 : Array (Option Value)} {oc9 kV9 dc9 pm9 cd9 ct9 : Value}
    {fa10 : Addr} {od10 an10 : Option Addr} {sl10 : Array (Option Value)} {oc10 kV10 dc10 pm10 cd10 ct10 : Value}
    {fa11 : Addr} {od11 an11 : Option Addr} {sl11 : Array (Option Value)} {oc11 kV11 dc11 pm11 cd11 ct11 : Value}
    {fa12 : Addr} {od12 an12 : Option Addr} {sl12 : Array (Option Value)} {oc12 kV12 dc12 pm12 cd12 ct12 : Value}
    {fa13 : Addr} {od13 an13 : Option Addr} {sl13 : Array (Option Value)} {oc13 kV13 dc13 pm13 cd13 ct13 : Value}
    {fa14 : Addr} {od14 an14 : Option Addr} {sl14 : Array (Option Value)} {oc14 kV14 dc14 pm14 cd14 ct14 : Value}
    {fa15 : Addr} {od15 an15 : Option Addr} {sl15 : Array (Option Value)} {oc15 kV15 dc15 pm15 cd15 ct15 : Value}
    {fa16 : Addr} {od16 an16 : Option Addr} {sl16 : Array (Option Value)} {oc16 kV16 dc16 pm16 cd16 ct16 : Value}
    {fa17 : Addr} {od17 an17 : Option Addr} {sl17 : Array (Option Value)} {oc17 kV17 dc17 pm17 cd17 ct17 : Value}
    {fa18 : Addr} {od18 an18 : Option Addr} {sl18 : Array (Option Value)} {oc18 kV18 dc18 pm18 cd18 ct18 : Value}
    {xa0 : Addr}
    {xa1 : Addr}
    {xa2 : Addr}
    {ca_Keys : Addr}
    {fx_Busy : Addr} {odx_Busy anx_Busy : Option Addr} {slx_Busy : Array (Option Value)} {ocx_Busy kVx_Busy dcx_Busy pmx_Busy cdx_Busy ctx_Busy : Value} {xnm_Busy : _} {xq_Busy : _} {xN_Busy : _} {xbs_Busy : _} {xbm_Busy : _} {xsn_Busy : _} {xsub_Busy : _} {xab_Busy : _} {xcol_Busy : _} {xdd_Busy : _} {xk0_Busy : _} {xk1_Busy : _} {xk2_Busy : _} {xk3_Busy : _} {xk5_Busy : _} 
    (a0 : PySem.W.findIn K (.ref ca_Keys) "__init__" = some (some (.ref fa0))) (i0 : PySem.W.isFn K (.ref fa0) = true) (l0 : K.lookup fa0 = some ⟨oc0, od0, .func (PySem.W.fnOf "__init__" "Keys.__init__" (defArgs s_Keys_init) (defBody s_Keys_init) (defScope s_Keys_init) .none kV0 dc0 pm0 an0 cd0 ct0), sl0⟩) (c0 : PySem.W.codeIn K cd0 "Keys.__init__" = true) (k0 : PySem.W.keepIn K (.ref fa0) = true)
    (a1 : PySem.W.findIn K (.ref ca_Keys) "is_busy" = some (some (.ref fa1))) (i1 : PySem.W.isFn K (.ref fa1) = true) (l1 : K.lookup fa1 = some ⟨oc1, od1, .func (PySem.W.fnOf "is_busy" "Keys.is_busy" (defArgs s_Keys_is_busy) (defBody s_Keys_is_busy) (defScope s_Keys_is_busy) .none kV1 dc1 pm1 an1 cd1 ct1), sl1⟩) (c1 : PySem.W.codeIn K cd1 "Keys.is_busy" = true) (k1 : PySem.W.keepIn K (.ref fa1) = true)
    (a2 : PySem.W.findIn K (.ref ca_Keys) "begin" = some (some (.ref fa2))) (i2 : PySem.W.isFn K (.ref fa2) = true) (l2 : K.lookup fa2 = some ⟨oc2, od2, .func (PySem.W.fnOf "begin" "Keys.begin" (defArgs s_Keys_begin) (defBody s_Keys_begin) (defScope s_Keys_begin) .none kV2 dc2 pm2 an2 cd2 ct2), sl2⟩) (c2 : PySem.W.codeIn K cd2 "Keys.begin" = true) (k2 : PySem.W.keepIn K (.ref fa2) = true)
    (a3 : PySem.W.findIn K (.ref ca_Keys) "must_be_busy" = some (some (.ref fa3))) (i3 : PySem.W.isFn K (.ref fa3) = true) (l3 : K.lookup fa3 = some ⟨oc3, od3, .func (PySem.W.fnOf "must_be_busy" "Keys.must_be_busy" (defArgs s_Keys_must_be_busy) (defBody s_Keys_must_be_busy) (defScope s_Keys_must_be_busy) .none kV3 dc3 pm3 an3 cd3 ct3), sl3⟩) (c3 : PySem.W.codeIn K cd3 "Keys.must_be_busy" = true) (k3 : PySem.W.keepIn K (.ref fa3) = true)
    (a4 : PySem.W.findIn K (.ref ca_Keys) "drop" = some (some (.ref fa4))) (i4 : PySem.W.isFn K (.ref fa4) = true) (l4 : K.lookup fa4 = some ⟨oc4, od4, .func (PySem.W.fnOf "drop" "Keys.drop" (defArgs s_Keys_drop) (defBody s_Keys_drop) (defScope s_Keys_drop) .none kV4 dc4 pm4 an4 cd4 ct4), sl4⟩) (c4 : PySem.W.codeIn K cd4 "Keys.drop" = true) (k4 : PySem.W.keepIn K (.ref fa4) = true)
    (a5 : PySem.W.findIn K (.ref ca_Keys) "settle" = some (some (.ref fa5))) (i5 : PySem.W.isFn K (.ref fa5) = true) (l5 : K.lookup fa5 = some ⟨oc5, od5, .func (PySem.W.fnOf "settle" "Keys.settle" (defArgs s_Keys_settle) (defBody s_Keys_settle) (defScope s_Keys_settle) .none kV5 dc5 pm5 an5 cd5 ct5), sl5⟩) (c5 : PySem.W.codeIn K cd5 "Keys.settle" = true) (k5 : PySem.W.keepIn K (.ref fa5) = true)
    (a6 : PySem.W.findIn K (.ref ca_Keys) "kept" = some (some (.ref fa6))) (i6 : PySem.W.isFn K (.ref fa6) = true) (l6 : K.lookup fa6 = some ⟨oc6, od6, .func (PySem.W.fnOf "kept" "Keys.kept" (defArgs s_Keys_kept) (defBody s_Keys_kept) (defScope s_Keys_kept) .none kV6 dc6 pm6 an6 (.ref cc6) ct6), sl6⟩) (c6 : PySem.W.codeIn K (.ref cc6) "Keys.kept" = true) (k6 : PySem.W.keepIn K (.ref fa6) = true) (lch6 : PySem.W.codeHdIn K cc6 (tabA K "Keys.kept") = true) (lnk6 : K.lookup (tabA K "Keys.kept") = none) (lhT6 : h.get? (tabA K "Keys.kept") = some { cls := .none, data := .fields #[] })
    (a7 : PySem.W.findIn K (.ref ca_Keys) "under" = some (some (.ref fa7))) (i7 : PySem.W.isFn K (.ref fa7) = true) (l7 : K.lookup fa7 = some ⟨oc7, od7, .func (PySem.W.fnOf "under" "Keys.under" (defArgs s_Keys_under) (defBody s_Keys_under) (defScope s_Keys_under) .none kV7 dc7 pm7 an7 (.ref cc7) ct7), sl7⟩) (c7 : PySem.W.codeIn K (.ref cc7) "Keys.under" = true) (k7 : PySem.W.keepIn K (.ref fa7) = true) (lch7 : PySem.W.codeHdIn K cc7 (tabA K "Keys.under") = true) (lnk7 : K.lookup (tabA K "Keys.under") = none) (lhT7 : h.get? (tabA K "Keys.under") = some { cls := .none, data := .fields #[] })
    (a8 : PySem.W.nsIn K mainGlobals "_law_pen" = some (some (.ref fa8))) (l8 : K.lookup fa8 = some ⟨oc8, od8, .func (PySem.W.fnOf "_law_pen" "_law_pen" (defArgs s__law_pen) (defBody s__law_pen) (defScope s__law_pen) .none kV8 dc8 pm8 an8 cd8 ct8), sl8⟩) (c8 : PySem.W.codeIn K cd8 "_law_pen" = true) (k8 : PySem.W.keepIn K (.ref fa8) = true)
    (a9 : PySem.W.nsIn K mainGlobals "_law_take" = some (some (.ref fa9))) (l9 : K.lookup fa9 = some ⟨oc9, od9, .func (PySem.W.fnOf "_law_take" "_law_take" (defArgs s__law_take) (defBody s__law_take) (defScope s__law_take) .none kV9 dc9 pm9 an9 cd9 ct9), sl9⟩) (c9 : PySem.W.codeIn K cd9 "_law_take" = true) (k9 : PySem.W.keepIn K (.ref fa9) = true)
    (a10 : PySem.W.nsIn K mainGlobals "_law_cell_at" = some (some (.ref fa10))) (l10 : K.lookup fa10 = some ⟨oc10, od10, .func (PySem.W.fnOf "_law_cell_at" "_law_cell_at" (defArgs s__law_cell_at) (defBody s__law_cell_at) (defScope s__law_cell_at) .none kV10 dc10 pm10 an10 cd10 ct10), sl10⟩) (c10 : PySem.W.codeIn K cd10 "_law_cell_at" = true) (k10 : PySem.W.keepIn K (.ref fa10) = true)
    (a11 : PySem.W.nsIn K mainGlobals "_law_number" = some (some (.ref fa11))) (l11 : K.lookup fa11 = some ⟨oc11, od11, .func (PySem.W.fnOf "_law_number" "_law_number" (defArgs s__law_number) (defBody s__law_number) (defScope s__law_number) .none kV11 dc11 pm11 an11 cd11 ct11), sl11⟩) (c11 : PySem.W.codeIn K cd11 "_law_number" = true) (k11 : PySem.W.keepIn K (.ref fa11) = true)
    (a12 : PySem.W.nsIn K mainGlobals "_law_names" = some (some (.ref fa12))) (l12 : K.lookup fa12 = some ⟨oc12, od12, .func (PySem.W.fnOf "_law_names" "_law_names" (defArgs s__law_names) (defBody s__law_names) (defScope s__law_names) .none kV12 dc12 pm12 an12 cd12 ct12), sl12⟩) (c12 : PySem.W.codeIn K cd12 "_law_names" = true) (k12 : PySem.W.keepIn K (.ref fa12) = true)
    (a13 : PySem.W.nsIn K mainGlobals "_law_keys" = some (some (.ref fa13))) (l13 : K.lookup fa13 = some ⟨oc13, od13, .func (PySem.W.fnOf "_law_keys" "_law_keys" (defArgs s__law_keys) (defBody s__law_keys) (defScope s__law_keys) .none kV13 dc13 pm13 an13 cd13 ct13), sl13⟩) (c13 : PySem.W.codeIn K cd13 "_law_keys" = true) (k13 : PySem.W.keepIn K (.ref fa13) = true)
    (a14 : PySem.W.nsIn K mainGlobals "_law_same" = some (some (.ref fa14))) (l14 : K.lookup fa14 = some ⟨oc14, od14, .func (PySem.W.fnOf "_law_same" "_law_same" (defArgs s__law_same) (defBody s__law_same) (defScope s__law_same) .none kV14 dc14 pm14 an14 cd14 ct14), sl14⟩) (c14 : PySem.W.codeIn K cd14 "_law_same" = true) (k14 : PySem.W.keepIn K (.ref fa14) = true)
    (a15 : PySem.W.nsIn K mainGlobals "_law_deed" = some (some (.ref fa15))) (l15 : K.lookup fa15 = some ⟨oc15, od15, .func (PySem.W.fnOf "_law_deed" "_law_deed" (defArgs s__law_deed) (defBody s__law_deed) (defScope s__law_deed) .none kV15 dc15 pm15 an15 cd15 ct15), sl15⟩) (c15 : PySem.W.codeIn K cd15 "_law_deed" = true) (k15 : PySem.W.keepIn K (.ref fa15) = true)
    (a16 : PySem.W.nsIn K mainGlobals "_law_answer" = some (some (.ref fa16))) (l16 : K.lookup fa16 = some ⟨oc16, od16, .func (PySem.W.fnOf "_law_answer" "_law_answer" (defArgs s__law_answer) (defBody s__law_answer) (defScope s__law_answer) .none kV16 dc16 pm16 an16 cd16 ct16), sl16⟩) (c16 : PySem.W.codeIn K cd16 "_law_answer" = true) (k16 : PySem.W.keepIn K (.ref fa16) = true)
    (a17 : PySem.W.nsIn K mainGlobals "_law_told_right" = some (some (.ref fa17))) (l17 : K.lookup fa17 = some ⟨oc17, od17, .func (PySem.W.fnOf "_law_told_right" "_law_told_right" (defArgs s__law_told_right) (defBody s__law_told_right) (defScope s__law_told_right) .none kV17 dc17 pm17 an17 cd17 ct17), sl17⟩) (c17 : PySem.W.codeIn K cd17 "_law_told_right" = true) (k17 : PySem.W.keepIn K (.ref fa17) = true)
    (a18 : PySem.W.nsIn K mainGlobals "law" = some (some (.ref fa18))) (l18 : K.lookup fa18 = some ⟨oc18, od18, .func (PySem.W.fnOf "law" "law" (defArgs s_law) (defBody s_law) (defScope s_law) .none kV18 dc18 pm18 an18 cd18 ct18), sl18⟩) (c18 : PySem.W.codeIn K cd18 "law" = true) (k18 : PySem.W.keepIn K (.ref fa18) = true)
    (ac_Keys : PySem.W.nsIn K mainGlobals "Keys" = some (some (.ref ca_Keys))) (pg_Keys : PySem.W.plainGet K ca_Keys Str.empty = true) (hd_Keys : PySem.W.hasDictIn K ca_Keys = true) (po_Keys : PySem.W.plainOver K ca_Keys = true) (sa_Keys : PySem.W.findIn K (.ref ca_Keys) "__setattr__" = some (some (.builtin "object.__setattr__"))) (kc_Keys : PySem.W.keepIn K (.ref ca_Keys) = true)
    (mk_Keys : PySem.W.makesIn K ca_Keys = true)
    (nf0_Keys : PySem.W.findIn K (.ref ca_Keys) "life" = some none)
    (nf1_Keys : PySem.W.findIn K (.ref ca_Keys) "stands" = some none)
    (z0 : PySem.W.nsIn K mainGlobals "sorted" = some none)
    (z1 : PySem.W.nsIn K mainGlobals "max" = some none)
    (z2 : PySem.W.nsIn K mainGlobals "range" = some none)
    (z3 : PySem.W.nsIn K mainGlobals "int" = some none)
    (z4 : PySem.W.nsIn K mainGlobals "len" = some none)
    (z5 : PySem.W.nsIn K mainGlobals "min" = some none)
    (z6 : PySem.W.nsIn K mainGlobals "isinstance" = some none)
    (z7 : PySem.W.nsIn K mainGlobals "bool" = some none)
    (z8 : PySem.W.nsIn K mainGlobals "str" = some none)
    (z9 : PySem.W.nsIn K mainGlobals "list" = some none)
    (z10 : PySem.W.nsIn K mainGlobals "tuple" = some none)
    (z11 : PySem.W.nsIn K mainGlobals "all" = some none)
    (z12 : PySem.W.nsIn K mainGlobals "zip" = some none)
    (z13 : PySem.W.nsIn K mainGlobals "enumerate" = some none)
    (xg0 : PySem.W.nsIn K mainGlobals "DoorError" = some (some (.ref xa0)))
    (xg1 : PySem.W.nsIn K mainGlobals "NoAsk" = some (some (.ref xa1))) (xq1 : PySem.W.excIn K xa1 [.type "ValueError", .type "Exception", .type "BaseException", .type "object"] "ValueError.__new__" = true) (xk1 : PySem.W.keepIn K (.ref xa1) = true) (xb1 : PySem.W.subIn K (.ref xa1) (.type "BaseException") = some true) (xt1 : PySem.W.typeIn K (.ref xa1) = some (.type "type"))
    (xg2 : PySem.W.nsIn K mainGlobals "Busy" = some (some (.ref xa2))) (xk2 : PySem.W.keepIn K (.ref xa2) = true) (xb2 : PySem.W.subIn K (.ref xa2) (.type "BaseException") = some true) (xt2 : PySem.W.typeIn K (.ref xa2) = some (.type "type"))
    (ro_Busy : K.lookup xa2 = some (excClassObj xnm_Busy xq_Busy xa2 xN_Busy xbs_Busy xbm_Busy true xsn_Busy xsub_Busy xab_Busy xcol_Busy xdd_Busy xk0_Busy xk1_Busy xk2_Busy xk3_Busy xk5_Busy "ValueError.__new__")) (rm_Busy : PySem.HandSPX.refsVE xbm_Busy = true) (rs_Busy : PySem.W.findIn K (.ref xa2) "__setattr__" = some (some (.builtin "object.__setattr__"))) (rn_Busy : PySem.W.findIn K (.ref xa2) "number" = some none)
    (ri_Busy : PySem.W.findIn K (.ref xa2) "__init__" = some (some (.ref fx_Busy))) (rt_Busy : PySem.W.typeIn K (.ref fx_Busy) = some (.type "function")) (rl_Busy : K.lookup fx_Busy = some ⟨ocx_Busy, odx_Busy, .func (PySem.W.fnOf "__init__" "Busy.__init__" (defArgs s_Busy_init) (defBody s_Busy_init) (defScope s_Busy_init) .none kVx_Busy dcx_Busy pmx_Busy anx_Busy cdx_Busy ctx_Busy), slx_Busy⟩) (rc_Busy : PySem.W.codeIn K cdx_Busy "Busy.__init__" = true) (rk_Busy : PySem.W.keepIn K (.ref fx_Busy) = true)
    (bz1 : PySem.W.specialIn K (.ref xa0) "__getattribute__" = some (some (.builtin "type.__getattribute__"))) (bz2 : PySem.W.typeIn K (.ref xa0) = some (.type "type")) (bz3 : PySem.W.readsIn K xa0 (.type "type") = true) (bz4 : PySem.W.findCls K (.ref xa0) (.type "type") "__init__" = some (.val (.builtin "ValueError.__init__")))
    (xf : xfB K [(0, xa0), (6, xa1), (16, xa2)] = true)
    (lne : (tabA K "Keys.kept" == tabA K "Keys.under") = false) :
    ∃ (fd : FuncData) (cs : List Addr), ((["Keys.kept", "Keys.under"] : List Str).map (tabA K)).Nodup ∧ cs.length = (["Keys.kept", "Keys.under"] : List Str).length ∧ (∀ p ∈ cs.zip ((["Keys.kept", "Keys.under"] : List Str).map (tabA K)), h.get? p.2 = some { cls := .none, data := .fields #[] } ∧ K.lookup p.2 = none ∧ PySem.W.CodeHd h p.1 p.2) ∧ (∀ (s : Shared) (v : Value), BindsTo s fd ⟨[v], []⟩ [("_law_script", v)]) ∧ ∀ base : Heap, K.In base → base.Ns mainGlobals mg → (∀ p ∈ cs.zip ((["Keys.kept", "Keys.under"] : List Str).map (tabA K)), LamX.TabB base mg p.1 p.2) → FnOk l.prog w K mg base (L2.CX l.prog w) 8 fa fd ["_law_script"] (spX K T_law) := by
  have e := hfa.symm.trans (PySem.W.mg_of X G a18)
  cases e
  have ea_Keys := clA_of (j := 23) ac_Keys
  subst ea_Keys
  have CF_Keys : CF K 23 := ⟨⟨pg_Keys, hd_Keys, po_Keys, sa_Keys⟩, fun f hf => (by rcases List.mem_cons.mp hf with rfl | hf; (exact nf0_Keys); rcases List.mem_cons.mp hf with rfl | hf; (exact nf1_Keys); cases hf)⟩
  have F0 := fun_mk (st := s_Keys_init) l0 c0 k0
  have F1 := fun_mk (st := s_Keys_is_busy) l1 c1 k1
  have F2 := fun_mk (st := s_Keys_begin) l2 c2 k2
  have F3 := fun_mk (st := s_Keys_must_be_busy) l3 c3 k3
  have F4 := fun_mk (st := s_Keys_drop) l4 c4 k4
  have F5 := fun_mk (st := s_Keys_settle) l5 c5 k5
  have F6 := fun_mk (st := s_Keys_kept) l6 c6 k6
  have F7 := fun_mk (st := s_Keys_under) l7 c7 k7
  have F8 := fun_mk (st := s__law_pen) l8 c8 k8
  have F9 := fun_mk (st := s__law_take) l9 c9 k9
  have F10 := fun_mk (st := s__law_cell_at) l10 c10 k10
  have F11 := fun_mk (st := s__law_number) l11 c11 k11
  have F12 := fun_mk (st := s__law_names) l12 c12 k12
  have F13 := fun_mk (st := s__law_keys) l13 c13 k13
  have F14 := fun_mk (st := s__law_same) l14 c14 k14
  have F15 := fun_mk (st := s__law_deed) l15 c15 k15
  have F16 := fun_mk (st := s__law_answer) l16 c16 k16
  have F17 := fun_mk (st := s__law_told_right) l17 c17 k17
  have F18 := fun_mk (st := s_law) l18 c18 k18
  have b0 := F0.binds (ps := ["self", "life"]) fun _ _ _ _ _ _ us hl => match us, hl with | [_, _], _ => rfl
  have b1 := F1.binds (ps := ["self", "asker", "key"]) fun _ _ _ _ _ _ us hl => match us, hl with | [_, _, _], _ => rfl
  have b2 := F2.binds (ps := ["self", "asker", "key", "number", "deed"]) fun _ _ _ _ _ _ us hl => match us, hl with | [_, _, _, _, _], _ => rfl
  have b3 := F3.binds (ps := ["self", "asker", "key"]) fun _ _ _ _ _ _ us hl => match us, hl with | [_, _, _], _ => rfl
  have b4 := F4.binds (ps := ["self", "asker", "key"]) fun _ _ _ _ _ _ us hl => match us, hl with | [_, _, _], _ => rfl
  have b5 := F5.binds (ps := ["self", "asker", "key", "turn", "answer"]) fun _ _ _ _ _ _ us hl => match us, hl with | [_, _, _, _, _], _ => rfl
  have b6 := F6.binds (ps := ["self", "turn"]) fun _ _ _ _ _ _ us hl => match us, hl with | [_, _], _ => rfl
  have b7 := F7.binds (ps := ["self"]) fun _ _ _ _ _ _ us hl => match us, hl with | [_], _ => rfl
  have b8 := F8.binds (ps := ["_law_cell", "_law_k"]) fun _ _ _ _ _ _ us hl => match us, hl with | [_, _], _ => rfl
  have b9 := F9.binds (ps := ["_law_pen_here", "_law_most"]) fun _ _ _ _ _ _ us hl => match us, hl with | [_, _], _ => rfl
  have b10 := F10.binds (ps := ["_law_script", "_law_k"]) fun _ _ _ _ _ _ us hl => match us, hl with | [_, _], _ => rfl
  have b11 := F11.binds (ps := ["_law_pen_here", "_law_least", "_law_most"]) fun _ _ _ _ _ _ us hl => match us, hl with | [_, _, _], _ => rfl
  have b12 := F12.binds (ps := ["_law_pen_here", "_law_many"]) fun _ _ _ _ _ _ us hl => match us, hl with | [_, _], _ => rfl
  have b13 := F13.binds (ps := ["_law_pen_here", "_law_many"]) fun _ _ _ _ _ _ us hl => match us, hl with | [_, _], _ => rfl
  have b14 := F14.binds (ps := ["_law_found", "_law_due"]) fun _ _ _ _ _ _ us hl => match us, hl with | [_, _], _ => rfl
  have b15 := F15.binds (ps := ["_law_pen_here", "_law_names_here"]) fun _ _ _ _ _ _ us hl => match us, hl with | [_, _], _ => rfl
  have b16 := F16.binds (ps := ["_law_pen_here", "_law_deed_here"]) fun _ _ _ _ _ _ us hl => match us, hl with | [_, _], _ => rfl
  have b17 := F17.binds (ps := ["_law_keys_here", "_law_stands", "_law_life", "_law_turn"]) fun _ _ _ _ _ _ us hl => match us, hl with | [_, _, _, _], _ => rfl
  have m_sorted := PySem.W.mg_none_of X G z0
  have m_max := PySem.W.mg_none_of X G z1
  have m_range := PySem.W.mg_none_of X G z2
  have m_int := PySem.W.mg_none_of X G z3
  have m_len := PySem.W.mg_none_of X G z4
  have m_min := PySem.W.mg_none_of X G z5
  have m_isinstance := PySem.W.mg_none_of X G z6
  have m_bool := PySem.W.mg_none_of X G z7
  have m_str := PySem.W.mg_none_of X G z8
  have m_list := PySem.W.mg_none_of X G z9
  have m_tuple := PySem.W.mg_none_of X G z10
  have m_all := PySem.W.mg_none_of X G z11
  have m_zip := PySem.W.mg_none_of X G z12
  have m_enumerate := PySem.W.mg_none_of X G z13
  have hX : XF K mg KS := xf_mk (l := [(0, xa0), (6, xa1), (16, xa2)]) (by intro p hp; rcases List.mem_cons.mp hp with rfl | hp; (exact PySem.W.mg_of X G xg0); rcases List.mem_cons.mp hp with rfl | hp; (exact PySem.W.mg_of X G xg1); rcases List.mem_cons.mp hp with rfl | hp; (exact PySem.W.mg_of X G xg2); cases hp) (by intro p hp; rcases List.mem_cons.mp hp with rfl | hp; (exact clA_of (j := 0) xg0); rcases List.mem_cons.mp hp with rfl | hp; (exact clA_of (j := 6) xg1); rcases List.mem_cons.mp hp with rfl | hp; (exact clA_of (j := 16) xg2); cases hp) xf
  have e_NoAsk : OwnX K mg "NoAsk" (clA K 6) := by rw [clA_of (j := 6) xg1]; exact ⟨PySem.W.mg_of X G xg1, xq1, xk1, xb1, xt1⟩
  have Fx_Busy := fun_mk (st := s_Busy_init) rl_Busy rc_Busy rk_Busy
  have bx_Busy := Fx_Busy.binds (ps := ["self", "number"]) fun _ _ _ _ _ _ us hl => match us, hl with | [_, _], _ => rfl
  have Ox_Busy : OexC K (clA K 16) := by rw [clA_of (j := 16) xg2]; exact ⟨⟨_, _, _, _, _, _, _, _, _, _, _, _, _, _, _, ro_Busy, rm_Busy⟩, rs_Busy, xb2, xt2, xk2⟩
  refine ⟨(PySem.W.fnOf "law" "law" (defArgs s_law) (defBody s_law) (defScope s_law) .none kV18 dc18 pm18 an18 cd18 ct18), [cc6, cc7], List.nodup_cons.mpr ⟨fun z => by rw [List.map_cons, List.map_nil, List.mem_singleton] at z; rw [z] at lne; simp at lne, List.nodup_cons.mpr ⟨(fun z => nomatch z), List.nodup_nil⟩⟩, rfl, ?_, fun s v => .of_eq rfl, fun base _ _ hTB => ?_⟩
  · intro p hp
    rcases List.mem_cons.mp hp with rfl | hp
    · exact ⟨lhT6, lnk6, PySem.W.codeHd_of_K X lch6⟩
    rcases List.mem_cons.mp hp with rfl | hp
    · exact ⟨lhT7, lnk7, PySem.W.codeHd_of_K X lch7⟩
    cases hp
  have TB6 : LamX.TabB base mg cc6 (tabA K "Keys.kept") := hTB (cc6, tabA K "Keys.kept") (.head _)
  have TB7 : LamX.TabB base mg cc7 (tabA K "Keys.under") := hTB (cc7, tabA K "Keys.under") (.tail _ (.head _))
  have RZ_Busy : RzC l.prog w K mg base "Busy" 16 := ⟨⟨fx_Busy, _, "number", by rw [clA_of (j := 16) xg2]; exact PySem.W.mg_of X G xg2, Ox_Busy, by rw [clA_of (j := 16) xg2]; exact ri_Busy, rt_Busy, ok_Busy_init (base := base) Fx_Busy ⟨bz1, bz2, bz3, bz4⟩ (PySem.W.mg_of X G xg0), bx_Busy, by rw [clA_of (j := 16) xg2]; exact rn_Busy⟩⟩
  have MK_Keys_0 : MkC l.prog w K mg base "Keys" 23 1 ["self", "life"] [] T_Keys_init := ⟨_, _, [], [], PySem.W.mg_of X G ac_Keys, ⟨mk_Keys, a0, i0, kc_Keys⟩, b0, .nil, fun _ _ => .nil, ok_Keys_init (base := base) F0 CF_Keys⟩
  have MC_Keys_is_busy_0 : MC l.prog w K mg base 23 "is_busy" 1 ["self", "asker", "key"] [] T_Keys_is_busy := ⟨_, _, [], [], ⟨a1, i1, k1⟩, b1, .nil, fun _ _ => .nil, ok_Keys_is_busy (base := base) F1 CF_Keys⟩
  have MC_Keys_begin_0 : MC l.prog w K mg base 23 "begin" 3 ["self", "asker", "key", "number", "deed"] [] T_Keys_begin := ⟨_, _, [], [], ⟨a2, i2, k2⟩, b2, .nil, fun _ _ => .nil, ok_Keys_begin (base := base) F2 CF_Keys MC_Keys_is_busy_0 RZ_Busy⟩
  have MC_Keys_must_be_busy_0 : MC l.prog w K mg base 23 "must_be_busy" 2 ["self", "asker", "key"] [] T_Keys_must_be_busy := ⟨_, _, [], [], ⟨a3, i3, k3⟩, b3, .nil, fun _ _ => .nil, ok_Keys_must_be_busy (base := base) F3 e_NoAsk CF_Keys MC_Keys_is_busy_0⟩
  have MC_Keys_drop_0 : MC l.prog w K mg base 23 "drop" 3 ["self", "asker", "key"] [] T_Keys_drop := ⟨_, _, [], [], ⟨a4, i4, k4⟩, b4, .nil, fun _ _ => .nil, ok_Keys_drop (base := base) F4 CF_Keys MC_Keys_must_be_busy_0⟩
  have MC_Keys_settle_0 : MC l.prog w K mg base 23 "settle" 3 ["self", "asker", "key", "turn", "answer"] [] T_Keys_settle := ⟨_, _, [], [], ⟨a5, i5, k5⟩, b5, .nil, fun _ _ => .nil, ok_Keys_settle (base := base) F5 CF_Keys MC_Keys_must_be_busy_0⟩
  have MC_Keys_kept_0 : MC l.prog w K mg base 23 "kept" 1 ["self", "turn"] [] T_Keys_kept := ⟨_, _, [], [], ⟨a6, i6, k6⟩, b6, .nil, fun _ _ => .nil, ok_Keys_kept (base := base) F6 rfl TB6 m_sorted CF_Keys⟩
  have MC_Keys_under_0 : MC l.prog w K mg base 23 "under" 1 ["self"] [] T_Keys_under := ⟨_, _, [], [], ⟨a7, i7, k7⟩, b7, .nil, fun _ _ => .nil, ok_Keys_under (base := base) F7 rfl TB7 m_sorted CF_Keys⟩
  have C__law_pen : Cl l.prog w K mg base "_law_pen" 1 ["_law_cell", "_law_k"] T__law_pen := cl_mk (PySem.W.mg_of X G a8) F8 b8 (ok__law_pen (base := base) F8 m_max)
  have C__law_take : Cl l.prog w K mg base "_law_take" 1 ["_law_pen_here", "_law_most"] T__law_take := cl_mk (PySem.W.mg_of X G a9) F9 b9 (ok__law_take (base := base) F9 m_range m_int)
  have C__law_cell_at : Cl l.prog w K mg base "_law_cell_at" 1 ["_law_script", "_law_k"] T__law_cell_at := cl_mk (PySem.W.mg_of X G a10) F10 b10 (ok__law_cell_at (base := base) F10 m_len)
  have C__law_number : Cl l.prog w K mg base "_law_number" 2 ["_law_pen_here", "_law_least", "_law_most"] T__law_number := cl_mk (PySem.W.mg_of X G a11) F11 b11 (ok__law_number (base := base) F11 C__law_take m_max m_min)
  have C__law_names : Cl l.prog w K mg base "_law_names" 2 ["_law_pen_here", "_law_many"] T__law_names := cl_mk (PySem.W.mg_of X G a12) F12 b12 (ok__law_names (base := base) F12 C__law_take m_range)
  have C__law_keys : Cl l.prog w K mg base "_law_keys" 2 ["_law_pen_here", "_law_many"] T__law_keys := cl_mk (PySem.W.mg_of X G a13) F13 b13 (ok__law_keys (base := base) F13 C__law_take m_range)
  have CR14_0 : Cl l.prog w K mg base "_law_same" 0 ["_law_found", "_law_due"] (TR__law_same 0) := cl_mk (PySem.W.mg_of X G a14) F14 b14 fnx_bot
  have CR14_1 : Cl l.prog w K mg base "_law_same" 1 ["_law_found", "_law_due"] (TR__law_same 1) := cl_mk (PySem.W.mg_of X G a14) F14 b14 (ok__law_same (base := base) (kk := 0) (n := 0) F14 CR14_0 m_isinstance m_bool m_int m_str m_list m_tuple m_all m_zip m_len)
  have CR14_2 : Cl l.prog w K mg base "_law_same" 2 ["_law_found", "_law_due"] (TR__law_same 2) := cl_mk (PySem.W.mg_of X G a14) F14 b14 (ok__law_same (base := base) (kk := 1) (n := 1) F14 CR14_1 m_isinstance m_bool m_int m_str m_list m_tuple m_all m_zip m_len)
  have CR14_3 : Cl l.prog w K mg base "_law_same" 3 ["_law_found", "_law_due"] (TR__law_same 3) := cl_mk (PySem.W.mg_of X G a14) F14 b14 (ok__law_same (base := base) (kk := 2) (n := 2) F14 CR14_2 m_isinstance m_bool m_int m_str m_list m_tuple m_all m_zip m_len)
  have CR14_4 : Cl l.prog w K mg base "_law_same" 4 ["_law_found", "_law_due"] (TR__law_same 4) := cl_mk (PySem.W.mg_of X G a14) F14 b14 (ok__law_same (base := base) (kk := 3) (n := 3) F14 CR14_3 m_isinstance m_bool m_int m_str m_list m_tuple m_all m_zip m_len)
  have CR14_5 : Cl l.prog w K mg base "_law_same" 5 ["_law_found", "_law_due"] (TR__law_same 5) := cl_mk (PySem.W.mg_of X G a14) F14 b14 (ok__law_same (base := base) (kk := 4) (n := 4) F14 CR14_4 m_isinstance m_bool m_int m_str m_list m_tuple m_all m_zip m_len)
  have CR14_6 : Cl l.prog w K mg base "_law_same" 6 ["_law_found", "_law_due"] (TR__law_same 6) := cl_mk (PySem.W.mg_of X G a14) F14 b14 (ok__law_same (base := base) (kk := 5) (n := 5) F14 CR14_5 m_isinstance m_bool m_int m_str m_list m_tuple m_all m_zip m_len)
  have C__law_same : Cl l.prog w K mg base "_law_same" 6 ["_law_found", "_law_due"] (T__law_same 5) := CR14_6
  have C__law_deed : Cl l.prog w K mg base "_law_deed" 3 ["_law_pen_here", "_law_names_here"] T__law_deed := cl_mk (PySem.W.mg_of X G a15) F15 b15 (ok__law_deed (base := base) F15 C__law_number C__law_take m_len)
  have C__law_answer : Cl l.prog w K mg base "_law_answer" 3 ["_law_pen_here", "_law_deed_here"] T__law_answer := cl_mk (PySem.W.mg_of X G a16) F16 b16 (ok__law_answer (base := base) F16 C__law_take C__law_number m_len)
  have C__law_told_right : Cl l.prog w K mg base "_law_told_right" 7 ["_law_keys_here", "_law_stands", "_law_life", "_law_turn"] T__law_told_right := cl_mk (PySem.W.mg_of X G a17) F17 b17 (ok__law_told_right (base := base) F17 C__law_same m_sorted m_range CF_Keys MC_Keys_under_0 MC_Keys_kept_0)
  exact ok_law (base := base) F18 C__law_told_right C__law_same C__law_take C__law_number C__law_answer C__law_deed C__law_pen C__law_keys C__law_names C__law_cell_at m_min m_enumerate CF_Keys MC_Keys_under_0 MC_Keys_kept_0 MC_Keys_begin_0 MC_Keys_drop_0 MC_Keys_settle_0 MK_Keys_0
end Law
open PySem PySem.W PyProof.Rows
set_option maxHeartbeats 0 in
theorem PySem.Challenge.cw_oncedoor_k43_lists_by_numbers_holds : PySem.Challenge.rw_oncedoor_k43_lists_by_numbers.Holds := by
  w_on; o_law; k_head; (case hw => w_witness2)
  k_fill
  refine Px.walk_pxT (l := PySem.Challenge.rw_oncedoor_k43_lists_by_numbers) (k := 8) (x := "_law_script") (T := Law.T_law) ["Keys.kept", "Keys.under"] rfl rfl ⟨rfl, by decide, by decide⟩ (fun w h Y => by first | exact PySem.W.kIn_of Y | exact PySem.W.km_in_of Y) ?F Law.law_at
  case F =>
    intro w mg fa h Y KX G hmg
    refine' Law.all_mk KX G hmg ?hy_a0 ?hy_i0 ?hy_l0 ?hy_c0 ?hy_k0 ?hy_a1 ?hy_i1 ?hy_l1 ?hy_c1 ?hy_k1 ?hy_a2 ?hy_i2 ?hy_l2 ?hy_c2 ?hy_k2 ?hy_a3 ?hy_i3 ?hy_l3 ?hy_c3 ?hy_k3 ?hy_a4 ?hy_i4 ?hy_l4 ?hy_c4 ?hy_k4 ?hy_a5 ?hy_i5 ?hy_l5 ?hy_c5 ?hy_k5 ?hy_a6 ?hy_i6 ?hy_l6 ?hy_c6 ?hy_k6 ?hy_lch6 ?hy_lnk6 ?hy_lhT6 ?hy_a7 ?hy_i7 ?hy_l7 ?hy_c7 ?hy_k7 ?hy_lch7 ?hy_lnk7 ?hy_lhT7 ?hy_a8 ?hy_l8 ?hy_c8 ?hy_k8 ?hy_a9 ?hy_l9 ?hy_c9 ?hy_k9 ?hy_a10 ?hy_l10 ?hy_c10 ?hy_k10 ?hy_a11 ?hy_l11 ?hy_c11 ?hy_k11 ?hy_a12 ?hy_l12 ?hy_c12 ?hy_k12 ?hy_a13 ?hy_l13 ?hy_c13 ?hy_k13 ?hy_a14 ?hy_l14 ?hy_c14 ?hy_k14 ?hy_a15 ?hy_l15 ?hy_c15 ?hy_k15 ?hy_a16 ?hy_l16 ?hy_c16 ?hy_k16 ?hy_a17 ?hy_l17 ?hy_c17 ?hy_k17 ?hy_a18 ?hy_l18 ?hy_c18 ?hy_k18 ?hy_ac_Keys ?hy_pg_Keys ?hy_hd_Keys ?hy_po_Keys ?hy_sa_Keys ?hy_kc_Keys ?hy_mk_Keys ?hy_nf0_Keys ?hy_nf1_Keys ?hy_z0 ?hy_z1 ?hy_z2 ?hy_z3 ?hy_z4 ?hy_z5 ?hy_z6 ?hy_z7 ?hy_z8 ?hy_z9 ?hy_z10 ?hy_z11 ?hy_z12 ?hy_z13 ?hy_xg0 ?hy_xg1 ?hy_xq1 ?hy_xk1 ?hy_xb1 ?hy_xt1 ?hy_xg2 ?hy_xk2 ?hy_xb2 ?hy_xt2 ?hy_ro_Busy ?hy_rm_Busy ?hy_rs_Busy ?hy_rn_Busy ?hy_ri_Busy ?hy_rt_Busy ?hy_rl_Busy ?hy_rc_Busy ?hy_rk_Busy ?hy_bz1 ?hy_bz2 ?hy_bz3 ?hy_bz4 ?hy_xf ?hy_lne
    (case hy_ac_Keys => k_is)
    (case hy_a0 => k_is)
    (case hy_i0 => k_is)
    (case hy_l0 => k_is)
    (case hy_c0 => k_is)
    (case hy_k0 => k_is)
    (case hy_a1 => k_is)
    (case hy_i1 => k_is)
    (case hy_l1 => k_is)
    (case hy_c1 => k_is)
    (case hy_k1 => k_is)
    (case hy_a2 => k_is)
    (case hy_i2 => k_is)
    (case hy_l2 => k_is)
    (case hy_c2 => k_is)
    (case hy_k2 => k_is)
    (case hy_a3 => k_is)
    (case hy_i3 => k_is)
    (case hy_l3 => k_is)
    (case hy_c3 => k_is)
    (case hy_k3 => k_is)
    (case hy_a4 => k_is)
    (case hy_i4 => k_is)
    (case hy_l4 => k_is)
    (case hy_c4 => k_is)
    (case hy_k4 => k_is)
    (case hy_a5 => k_is)
    (case hy_i5 => k_is)
    (case hy_l5 => k_is)
    (case hy_c5 => k_is)
    (case hy_k5 => k_is)
    (case hy_a6 => k_is)
    (case hy_i6 => k_is)
    (case hy_l6 => k_is)
    (case hy_c6 => k_is)
    (case hy_k6 => k_is)
    (case hy_lch6 => kernel_rfl)
    (case hy_lnk6 => kernel_rfl)
    (case hy_lhT6 => exact PySem.W.km_tabs_of Y _ (List.mem_of_elem_eq_true (by kernel_rfl)))
    (case hy_a7 => k_is)
    (case hy_i7 => k_is)
    (case hy_l7 => k_is)
    (case hy_c7 => k_is)
    (case hy_k7 => k_is)
    (case hy_lch7 => kernel_rfl)
    (case hy_lnk7 => kernel_rfl)
    (case hy_lhT7 => exact PySem.W.km_tabs_of Y _ (List.mem_of_elem_eq_true (by kernel_rfl)))
    (case hy_a8 => k_is)
    (case hy_l8 => k_is)
    (case hy_c8 => k_is)
    (case hy_k8 => k_is)
    (case hy_a9 => k_is)
    (case hy_l9 => k_is)
    (case hy_c9 => k_is)
    (case hy_k9 => k_is)
    (case hy_a10 => k_is)
    (case hy_l10 => k_is)
    (case hy_c10 => k_is)
    (case hy_k10 => k_is)
    (case hy_a11 => k_is)
    (case hy_l11 => k_is)
    (case hy_c11 => k_is)
    (case hy_k11 => k_is)
    (case hy_a12 => k_is)
    (case hy_l12 => k_is)
    (case hy_c12 => k_is)
    (case hy_k12 => k_is)
    (case hy_a13 => k_is)
    (case hy_l13 => k_is)
    (case hy_c13 => k_is)
    (case hy_k13 => k_is)
    (case hy_a14 => k_is)
    (case hy_l14 => k_is)
    (case hy_c14 => k_is)
    (case hy_k14 => k_is)
    (case hy_a15 => k_is)
    (case hy_l15 => k_is)
    (case hy_c15 => k_is)
    (case hy_k15 => k_is)
    (case hy_a16 => k_is)
    (case hy_l16 => k_is)
    (case hy_c16 => k_is)
    (case hy_k16 => k_is)
    (case hy_a17 => k_is)
    (case hy_l17 => k_is)
    (case hy_c17 => k_is)
    (case hy_k17 => k_is)
    (case hy_a18 => k_is)
    (case hy_l18 => k_is)
    (case hy_c18 => k_is)
    (case hy_k18 => k_is)
    (case hy_pg_Keys => k_is)
    (case hy_hd_Keys => k_is)
    (case hy_po_Keys => k_is)
    (case hy_sa_Keys => k_is)
    (case hy_kc_Keys => k_is)
    (case hy_mk_Keys => k_is)
    (case hy_nf0_Keys => k_is)
    (case hy_nf1_Keys => k_is)
    (case hy_z0 => k_is)
    (case hy_z1 => k_is)
    (case hy_z2 => k_is)
    (case hy_z3 => k_is)
    (case hy_z4 => k_is)
    (case hy_z5 => k_is)
    (case hy_z6 => k_is)
    (case hy_z7 => k_is)
    (case hy_z8 => k_is)
    (case hy_z9 => k_is)
    (case hy_z10 => k_is)
    (case hy_z11 => k_is)
    (case hy_z12 => k_is)
    (case hy_z13 => k_is)
    (case hy_xg0 => k_is)
    (case hy_xg1 => k_is)
    (case hy_xq1 => k_exc)
    (case hy_xk1 => k_is)
    (case hy_xb1 => k_is)
    (case hy_xt1 => k_is)
    (case hy_xg2 => k_is)
    (case hy_xk2 => k_is)
    (case hy_xb2 => k_is)
    (case hy_xt2 => k_is)
    (case hy_ro_Busy => k_is)
    (case hy_rm_Busy => kernel_rfl)
    (case hy_rs_Busy => k_is)
    (case hy_rn_Busy => k_is)
    (case hy_ri_Busy => k_is)
    (case hy_rt_Busy => k_is)
    (case hy_rl_Busy => k_is)
    (case hy_rc_Busy => k_is)
    (case hy_rk_Busy => k_is)
    (case hy_bz1 => k_is)
    (case hy_bz2 => k_is)
    (case hy_bz3 => k_is)
    (case hy_bz4 => k_is)
    (case hy_xf => kernel_rfl)
    (case hy_lne => kernel_rfl)
